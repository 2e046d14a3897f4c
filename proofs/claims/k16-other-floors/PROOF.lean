import PyProof.Rows.All
import Lean
import PySem.Challenge.RW_beltturns_k16_other_floors
import Wide.All
import OpenK.AllK
import Wide.FinOn
import KE.KStateDown
import KE.KDictKeyed
import HandS.ForMost
import HandS.Exc
import HandS.ExcOwn
import HandS.TryOnly
import HandS.TryMany
import HandS.WordsExc
import HandS.Defaults
import HandS.Deep
import HandS.IsInst
import HandS.Flow
import HandS.Style
import HandS.TupAny
import HandS.TupMul
import HandS.TupLe
import HandS.More
import HandS.Conv
import HandS.Head0
import HandS.Head1
import HandS.Head2
import HandS.HeadEnd
import HandS.HeadHook1
import HandS.HeadHook2
import HandS.HeadHook3
import HandS.Replace
import HandS.SortInts
import HandS.Zip
import KE.GoesEnum
import HandS.Ends
import KE.SortData
import HandS.DictTup
import HandS.NoneIn
import KE.KEqDict
import HandS.RaiseMore
import PyProof.CollectStr
import KE.KDictZip
import KE.GoesMore
set_option Elab.async false
set_option linter.all false
set_option maxRecDepth 100000
set_option maxHeartbeats 4000000
set_option autoImplicit false
/-! Data in the place of heaps. D: what a value is, whatever stands where; R: what a computation comes to; Env: the frame's slots as data. -/
namespace L2.Pv
open PySem PySem.Spec PyProof.Rows

/-- the module's objects, the world -/
structure KW where
  K : PySem.W.Frag
  w : World
instance : CoeOut KW PySem.W.Frag := ⟨KW.K⟩
abbrev _root_.L2.Cx.kw (X : Cx) : KW := ⟨X.K, X.w⟩
/-- data -/
inductive D where
  | non | bl (b : Bool) | int (i : Int) | str (x : Str)
  | tup (xs : List D) | lst (xs : List D)
  /-- a dict: kind of its keys (false: ints and texts; true: tuples of these), its pairs -/
  | dct (t : Bool) (kvs : List (D × D))
  /-- a dict whose keys are tuples of ints, texts, None and such tuples -/
  | dcn (kvs : List (D × D))
  | obj (c : Str) (fs : List (Str × D))
  /-- the law's script -/
  | scr (ns : List Int)
  deriving Inhabited

mutual
def D.nk : D → Option NestedKey
  | .non => some .none
  | .int i => some (.num i)
  | .str x => some (.text x)
  | .tup ds => (D.nks ds).map NestedKey.tup
  | _ => none
def D.nks : List D → Option (List NestedKey)
  | [] => some []
  | d :: ds => match D.nk d, D.nks ds with
    | some k, some ks => some (k :: ks)
    | _, _ => none
end
def entryN (w : World) (x : NestedKey × Addr × Value) : DictEntry := ⟨x.1.hash w, .ref x.2.1, x.2.2⟩
/-- at a stands a dict of these entries -/
def DnO (w : World) (a : Addr) (xs : List (NestedKey × Addr × Value)) : HO := .ext fun h => (a == sysModules) = false ∧ (xs.map (·.1)).Nodup ∧ ∃ o es ep, h.get? a = some o ∧ o.ExactDict ∧ o.data = .dict es ep ∧ es.toList = xs.map (entryN w)
/-- keeps simp from taking such a row as a definitional step -/
theorem nr {α : Sort _} {a b : α} (h : a = b) : a = b := h
/-- what a computation comes to: a value, an exception of the program's class, or nothing is said -/
inductive R (α : Type) where
  | ok (a : α) | ex (c : Str) | no
  deriving Inhabited
def R.bind {α β : Type} (r : R α) (f : α → R β) : R β := match r with
  | .ok a => f a
  | .ex c => .ex c
  | .no => .no
instance : Monad R where
  pure := R.ok
  bind := R.bind
@[simp] theorem R.ok_bind {α β : Type} (a : α) (f : α → R β) : (R.ok a).bind f = f a := nr rfl
@[simp] theorem R.ex_bind {α β : Type} (c : Str) (f : α → R β) : (R.ex c : R α).bind f = .ex c := nr rfl
@[simp] theorem R.no_bind {α β : Type} (f : α → R β) : (R.no : R α).bind f = .no := nr rfl
theorem R.bind_assoc {α β γ : Type} (r : R α) (f : α → R β) (g : β → R γ) : (r.bind f).bind g = r.bind fun a => (f a).bind g := by cases r <;> rfl

/-- a slot: data, or an object that this frame alone holds -/
inductive Sl where
  | val (d : D) | own (d : D)
abbrev Env := List (Option Sl)

section
variable (K : KW) (mg : Str → Option Value) (F : Hp)
def keyD : Key → D
  | .inl i => .int i
  | .inr x => .str x
mutual
/-- by the frozen part F of the heap the value v is the data d -/
inductive Dat : V → D → Prop
  | non : Dat .non .non
  | bl (b : Bool) : Dat (.bl b) (.bl b)
  | int (i : Int) : Dat (.int i) (.int i)
  | str (x : Str) : Dat (.str x) (.str x)
  | tup {a : Addr} {xs : List V} {ds : List D} : F a = some (.tup xs) → DatL xs ds → Dat (.ref a) (.tup ds)
  | lst {a : Addr} {xs : List V} {ds : List D} : F a = some (.lst xs) → DatL xs ds → Dat (.ref a) (.lst ds)
  | scr {a : Addr} {ns : List Int} : SqL K F a (ns.map V.int) → Dat (.ref a) (.scr ns)
  | dctK {a : Addr} {o : Obj} {kvs : List (Key × V)} {ps : List (D × D)} : F a = some (.frz o (.dK kvs)) → DatK kvs ps → Dat (.ref a) (.dct false ps)
  | dctT {a : Addr} {o : Obj} {kvs : List (List Key × V)} {ps : List (D × D)} : F a = some (.frz o (.dT kvs)) → DatT kvs ps → Dat (.ref a) (.dct true ps)
  | dcn {a : Addr} {xs : List (NestedKey × Addr × Value)} {ps : List (D × D)} : F a = some (DnO K.w a xs) → DatN xs ps → Dat (.ref a) (.dcn ps)
  | obj {a C dx : Addr} {c : Str} {fv : List (Str × V)} {fs : List (Str × D)} : mg c = some (.ref C) → F a = some (.ins C dx fv) → DatF fv fs → Dat (.ref a) (.obj c fs)
inductive DatL : List V → List D → Prop
  | nil : DatL [] []
  | cons {v : V} {vs : List V} {d : D} {ds : List D} : Dat v d → DatL vs ds → DatL (v :: vs) (d :: ds)
inductive DatK : List (Key × V) → List (D × D) → Prop
  | nil : DatK [] []
  | cons {k : Key} {v : V} {vs : List (Key × V)} {d : D} {ds : List (D × D)} : Dat v d → DatK vs ds → DatK ((k, v) :: vs) ((keyD k, d) :: ds)
inductive DatT : List (List Key × V) → List (D × D) → Prop
  | nil : DatT [] []
  | cons {k : List Key} {v : V} {vs : List (List Key × V)} {d : D} {ds : List (D × D)} : Dat v d → DatT vs ds → DatT ((k, v) :: vs) ((.tup (k.map keyD), d) :: ds)
inductive DatN : List (NestedKey × Addr × Value) → List (D × D) → Prop
  | nil : DatN [] []
  | cons {k : NestedKey} {b : Addr} {u : Value} {v : V} {xs : List (NestedKey × Addr × Value)} {kd d : D} {ps : List (D × D)} : D.nk kd = some k → k.depth ≤ 8 → Dat (.ref b) kd → RelV v u → Dat v d → DatN xs ps → DatN ((k, b, u) :: xs) ((kd, d) :: ps)
inductive DatF : List (Str × V) → List (Str × D) → Prop
  | nil : DatF [] []
  | cons {k : Str} {v : V} {vs : List (Str × V)} {d : D} {ds : List (Str × D)} : Dat v d → DatF vs ds → DatF ((k, v) :: vs) ((k, d) :: ds)
end
end

section
variable {K : KW} {mg : Str → Option Value} {F F' : Hp}
theorem Rd.mono {a : Addr} {u : HO} (s : Same F F') (h : Rd F a u) : Rd F' a u := by
  rcases h with h | ⟨o, h⟩
  · exact .inl (s _ _ h)
  · exact .inr ⟨o, s _ _ h⟩
theorem SqL.mono {a : Addr} {xs : List V} (s : Same F F') (h : SqL K F a xs) : SqL K F' a xs := h.imp (Rd.mono s) id
theorem SqT.mono {a : Addr} {xs : List V} (s : Same F F') (h : SqT K F a xs) : SqT K F' a xs := h.imp (Rd.mono s) id
mutual
theorem Dat.mono (s : Same F F') : ∀ {v : V} {d : D}, Dat K mg F v d → Dat K mg F' v d
  | _, _, .non => .non
  | _, _, .bl b => .bl b
  | _, _, .int i => .int i
  | _, _, .str x => .str x
  | _, _, .tup h l => .tup (s _ _ h) (DatL.mono s l)
  | _, _, .lst h l => .lst (s _ _ h) (DatL.mono s l)
  | _, _, .scr h => .scr (SqL.mono s h)
  | _, _, .dctK h l => .dctK (s _ _ h) (DatK.mono s l)
  | _, _, .dctT h l => .dctT (s _ _ h) (DatT.mono s l)
  | _, _, .dcn h l => .dcn (s _ _ h) (DatN.mono s l)
  | _, _, .obj h1 h2 l => .obj h1 (s _ _ h2) (DatF.mono s l)
theorem DatL.mono (s : Same F F') : ∀ {v : List V} {d : List D}, DatL K mg F v d → DatL K mg F' v d
  | _, _, .nil => .nil
  | _, _, .cons h l => .cons (Dat.mono s h) (DatL.mono s l)
theorem DatK.mono (s : Same F F') : ∀ {v : List (Key × V)} {d : List (D × D)}, DatK K mg F v d → DatK K mg F' v d
  | _, _, .nil => .nil
  | _, _, .cons h l => .cons (Dat.mono s h) (DatK.mono s l)
theorem DatT.mono (s : Same F F') : ∀ {v : List (List Key × V)} {d : List (D × D)}, DatT K mg F v d → DatT K mg F' v d
  | _, _, .nil => .nil
  | _, _, .cons h l => .cons (Dat.mono s h) (DatT.mono s l)
theorem DatN.mono (s : Same F F') : ∀ {v : List (NestedKey × Addr × Value)} {d : List (D × D)}, DatN K mg F v d → DatN K mg F' v d
  | _, _, .nil => .nil
  | _, _, .cons e1 e2 h r q l => .cons e1 e2 (Dat.mono s h) r (Dat.mono s q) (DatN.mono s l)
theorem DatF.mono (s : Same F F') : ∀ {v : List (Str × V)} {d : List (Str × D)}, DatF K mg F v d → DatF K mg F' v d
  | _, _, .nil => .nil
  | _, _, .cons h l => .cons (Dat.mono s h) (DatF.mono s l)
end
theorem DatL.len : ∀ {vs : List V} {ds : List D}, DatL K mg F vs ds → vs.length = ds.length
  | _, _, .nil => rfl
  | _, _, .cons _ l => congrArg (· + 1) l.len
theorem DatL.get : ∀ {vs : List V} {ds : List D} {i : Nat} {v : V}, DatL K mg F vs ds → vs[i]? = some v → ∃ d, ds[i]? = some d ∧ Dat K mg F v d
  | _, _, 0, _, .cons h _, e => by cases e; exact ⟨_, rfl, h⟩
  | _, _, i + 1, _, .cons _ l, e => DatL.get (i := i) l e
theorem DatL.getD : ∀ {vs : List V} {ds : List D} {i : Nat} {d : D}, DatL K mg F vs ds → ds[i]? = some d → ∃ v, vs[i]? = some v ∧ Dat K mg F v d
  | _, _, 0, _, .cons h _, e => by cases e; exact ⟨_, rfl, h⟩
  | _, _, i + 1, _, .cons _ l, e => DatL.getD (i := i) l e
theorem DatL.app : ∀ {vs ws : List V} {ds es : List D}, DatL K mg F vs ds → DatL K mg F ws es → DatL K mg F (vs ++ ws) (ds ++ es)
  | _, _, _, _, .nil, m => m
  | _, _, _, _, .cons h l, m => .cons h (l.app m)
theorem DatL.take : ∀ {vs : List V} {ds : List D} (n : Nat), DatL K mg F vs ds → DatL K mg F (vs.take n) (ds.take n)
  | _, _, 0, _ => .nil
  | _, _, _ + 1, .nil => .nil
  | _, _, n + 1, .cons h l => .cons h (l.take n)
theorem DatL.drop : ∀ {vs : List V} {ds : List D} (n : Nat), DatL K mg F vs ds → DatL K mg F (vs.drop n) (ds.drop n)
  | _, _, 0, l => l
  | _, _, _ + 1, .nil => .nil
  | _, _, n + 1, .cons _ l => DatL.drop n l
theorem DatL.set : ∀ {vs : List V} {ds : List D} (n : Nat) {v : V} {d : D}, DatL K mg F vs ds → Dat K mg F v d → DatL K mg F (vs.set n v) (ds.set n d)
  | _, _, _, _, _, .nil, _ => .nil
  | _, _, 0, _, _, .cons _ l, q => .cons q l
  | _, _, n + 1, _, _, .cons h l, q => .cons h (l.set n q)
theorem DatL.snoc {vs : List V} {ds : List D} {v : V} {d : D} (l : DatL K mg F vs ds) (h : Dat K mg F v d) : DatL K mg F (vs ++ [v]) (ds ++ [d]) := l.app (.cons h .nil)
theorem DatL.rev : ∀ {vs : List V} {ds : List D}, DatL K mg F vs ds → DatL K mg F vs.reverse ds.reverse
  | _, _, .nil => .nil
  | _, _, .cons h l => by rw [List.reverse_cons, List.reverse_cons]; exact l.rev.app (.cons h .nil)
end

/-- from the frozen part F of H to F' of H': both grow; what is new in F' was nowhere in H -/
structure Ext (F H F' H' : Hp) : Prop where
  ff : Same F F'
  fh : Same F' H'
  hh : Same H H'
  nw : ∀ a o, F' a = some o → F a = none → H a = none ∨ ∃ xs, o = .tup xs
theorem Ext.refl {F H : Hp} (h : Same F H) : Ext F H F H := ⟨Same.refl _, h, Same.refl _, fun a o e n => by rw [n] at e; cases e⟩
theorem Ext.trans {F H F1 H1 F2 H2 : Hp} (x : Ext F H F1 H1) (y : Ext F1 H1 F2 H2) : Ext F H F2 H2 := ⟨x.ff.trans y.ff, y.fh, x.hh.trans y.hh, fun a o e n => by
  cases q : F1 a with
  | some u =>
    have z := y.ff a u q
    rw [e] at z; cases z
    exact x.nw a _ q n
  | none => exact (y.nw a o e q).imp x.hh.free id⟩
/-- what this frame alone holds is not frozen by it -/
theorem Ext.own {F H F' H' : Hp} (x : Ext F H F' H') {a : Addr} {u : HO} (n : F a = none) (h : H a = some u) (mu : Mut (some u)) : F' a = none := by
  cases q : F' a with
  | none => rfl
  | some w =>
    rcases x.nw a w q n with z | ⟨xs, z⟩
    · rw [z] at h; cases h
    · have z1 := x.fh a w q
      rw [x.hh a u h] at z1; cases z1
      subst z
      exact False.elim mu
theorem same_upd {H : Hp} {a : Addr} {o : HO} (h : H a = none) : Same H (upd H a o) := fun b u e => by rw [upd_ne (ne_of_none e h)]; exact e
theorem same_upd2 {F H : Hp} {a : Addr} {o : HO} (h : Same F H) : Same (upd F a o) (upd H a o) := fun b u e => by
  by_cases q : b = a
  · subst q; rw [upd_same] at e ⊢; exact e
  · rw [upd_ne q] at e ⊢; exact h b u e
/-- a new frozen object -/
theorem Ext.new {F H : Hp} {a : Addr} {o : HO} (h : Same F H) (n : H a = none) : Ext F H (upd F a o) (upd H a o) := ⟨same_upd (h.free n), same_upd2 h, same_upd n, fun b u e m => by
  by_cases q : b = a
  · subst q; exact .inl n
  · rw [upd_ne q, m] at e; cases e⟩

section
variable (K : KW) (mg : Str → Option Value)
/-- at a, not frozen, stands this -/
def OwnAt (F H : Hp) (a : Addr) : D → Prop
  | .lst ds => ∃ vs, H a = some (.lst vs) ∧ DatL K mg F vs ds
  | .dct false ps => ∃ kvs, H a = some (.dK kvs) ∧ DatK K mg F kvs ps
  | .dct true ps => ∃ kvs, H a = some (.dT kvs) ∧ DatT K mg F kvs ps
  | .dcn ps => ∃ xs, H a = some (DnO K.w a xs) ∧ DatN K mg F xs ps
  | .obj c fs => ∃ C dx fv, mg c = some (.ref C) ∧ H a = some (.ins C dx fv) ∧ DatF K mg F fv fs
  | _ => False
def SlOk (F H : Hp) (v : V) : Sl → Prop
  | .val d => Dat K mg F v d
  | .own d => ∃ a, v = .ref a ∧ F a = none ∧ OwnAt K mg F H a d
/-- the frame's slots σ in H are ρ. F0, H0: at the def's entry -/
structure Rel (F0 H0 F : Hp) (σ : St) (H : Hp) (ρ : Env) : Prop where
  fh : Same F H
  f0 : Same F0 F
  h0 : Same H0 H
  nw : ∀ a o, F a = some o → F0 a = none → H0 a = none ∨ ∃ xs, o = .tup xs
  len : ρ.length = σ.length
  sl : ∀ (i : Nat) (s : Sl), ρ[i]? = some (some s) → ∃ v, σ[i]? = some (some v) ∧ SlOk K mg F H v s
  ow : ∀ (i : Nat) (d : D) (a : Addr), ρ[i]? = some (some (.own d)) → σ[i]? = some (some (.ref a)) → H0 a = none
  un : ∀ (i j : Nat) (d e : D) (a : Addr), i ≠ j → ρ[i]? = some (some (.own d)) → ρ[j]? = some (some (.own e)) → σ[i]? = some (some (.ref a)) → σ[j]? = some (some (.ref a)) → False
end
section
variable {K : KW} {mg : Str → Option Value} {F0 H0 F H F' H' : Hp} {σ σ' : St} {ρ ρ' : Env} {v : V} {d d0 : D} {a : Addr} {i : Nat}
theorem OwnAt.mono (s : Same F F') (e : H' a = H a) (o : OwnAt K mg F H a d) : OwnAt K mg F' H' a d := by
  cases d with
  | lst ds => obtain ⟨vs, h, l⟩ := o; exact ⟨vs, e.trans h, l.mono s⟩
  | dct t ps => cases t with
    | false => obtain ⟨vs, h, l⟩ := o; exact ⟨vs, e.trans h, l.mono s⟩
    | true => obtain ⟨vs, h, l⟩ := o; exact ⟨vs, e.trans h, l.mono s⟩
  | dcn ps => obtain ⟨xs, h, l⟩ := o; exact ⟨xs, e.trans h, l.mono s⟩
  | obj c fs => obtain ⟨C, dx, fv, h1, h2, l⟩ := o; exact ⟨C, dx, fv, h1, e.trans h2, l.mono s⟩
  | _ => exact False.elim o
theorem OwnAt.some (o : OwnAt K mg F H a d) : ∃ u, H a = some u ∧ Mut (some u) := by
  cases d with
  | lst ds => obtain ⟨vs, h, l⟩ := o; exact ⟨_, h, trivial⟩
  | dct t ps => cases t with
    | false => obtain ⟨vs, h, l⟩ := o; exact ⟨_, h, trivial⟩
    | true => obtain ⟨vs, h, l⟩ := o; exact ⟨_, h, trivial⟩
  | dcn ps => obtain ⟨xs, h, l⟩ := o; exact ⟨_, h, trivial⟩
  | obj c fs => obtain ⟨C, dx, fv, h1, h2, l⟩ := o; exact ⟨_, h2, trivial⟩
  | _ => exact False.elim o
/-- how a thing that is frozen stands: a dict known to its object -/
def frzTo (o : Obj) : HO → HO
  | .dK kvs => .frz o (.dK kvs)
  | .dT kvs => .frz o (.dT kvs)
  | u => u
/-- frozen, it is data -/
theorem OwnAt.dat {u : HO} (ob : Obj) (o : OwnAt K mg F H a d) (n : F a = none) (h : H a = Option.some u) : Dat K mg (upd F a (frzTo ob u)) (.ref a) d := by
  have s : Same F (upd F a (frzTo ob u)) := same_upd n
  cases d with
  | lst ds => obtain ⟨vs, e, l⟩ := o; rw [h] at e; cases e; exact .lst upd_same (l.mono s)
  | dct t ps => cases t with
    | false => obtain ⟨vs, e, l⟩ := o; rw [h] at e; cases e; exact .dctK upd_same (l.mono s)
    | true => obtain ⟨vs, e, l⟩ := o; rw [h] at e; cases e; exact .dctT upd_same (l.mono s)
  | dcn ps => obtain ⟨xs, e, l⟩ := o; rw [h] at e; cases e; exact .dcn upd_same (l.mono s)
  | obj c fs => obtain ⟨C, dx, fv, h1, e, l⟩ := o; rw [h] at e; cases e; exact .obj h1 upd_same (l.mono s)
  | _ => exact False.elim o
theorem Rel.toExt (r : Rel K mg F0 H0 F σ H ρ) : Ext F0 H0 F H := ⟨r.f0, r.fh, r.h0, r.nw⟩
theorem Rel.ext (r : Rel K mg F0 H0 F σ H ρ) (x : Ext F H F' H') : Rel K mg F0 H0 F' σ H' ρ where
  fh := x.fh
  f0 := r.f0.trans x.ff
  h0 := r.h0.trans x.hh
  nw := (r.toExt.trans x).nw
  len := r.len
  sl := fun i s e => by
    obtain ⟨v, hv, k⟩ := r.sl i s e
    refine ⟨v, hv, ?_⟩
    cases s with
    | val d => exact k.mono x.ff
    | own d =>
      obtain ⟨a, rfl, n, o⟩ := k
      obtain ⟨u, hu, mu⟩ := o.some
      exact ⟨a, rfl, x.own n hu mu, o.mono x.ff ((x.hh a u hu).trans hu.symm)⟩
  ow := r.ow
  un := r.un
/-- a slot is forgotten -/
theorem Rel.forget (r : Rel K mg F0 H0 F σ H ρ) (i : Nat) : Rel K mg F0 H0 F σ H (ρ.set i none) := by
  have k : ∀ (j : Nat) (s : Sl), (ρ.set i none)[j]? = some (some s) → ρ[j]? = some (some s) := fun j s e => by
    rw [List.getElem?_set] at e
    split at e
    · split at e <;> cases e
    · exact e
  exact ⟨r.fh, r.f0, r.h0, r.nw, by rw [List.length_set]; exact r.len, fun j s e => r.sl j s (k j s e), fun j d a e => r.ow j d a (k j _ e), fun j l d e a ne h1 h2 => r.un j l d e a ne (k j _ h1) (k l _ h2)⟩
/-- a slot is stored: data -/
theorem Rel.put (r : Rel K mg F0 H0 F σ H ρ) (i : Nat) (h : Dat K mg F v d) : Rel K mg F0 H0 F (σ.set i (some v)) H (ρ.set i (some (.val d))) := by
  have k : ∀ (j : Nat) (s : Sl), j ≠ i → (ρ.set i (some (.val d)))[j]? = some (some s) → ρ[j]? = some (some s) := fun j s ne e => by
    rw [List.getElem?_set_ne (Ne.symm ne)] at e; exact e
  have ko : ∀ (j : Nat) (e : D), (ρ.set i (some (.val d)))[j]? = some (some (.own e)) → j ≠ i := fun j e h q => by
    subst q
    rw [List.getElem?_set] at h
    simp only [if_true] at h
    split at h <;> cases h
  refine ⟨r.fh, r.f0, r.h0, r.nw, by rw [List.length_set, List.length_set]; exact r.len, fun j s e => ?_, fun j e a h1 h2 => ?_, fun j l e f a ne h1 h2 h3 h4 => ?_⟩
  · by_cases q : j = i
    · subst q
      have hl : j < ρ.length := by
        have := (List.getElem?_eq_some_iff.mp e).1
        rwa [List.length_set] at this
      rw [List.getElem?_set_self hl] at e
      cases e
      exact ⟨v, List.getElem?_set_self (by rw [← r.len]; exact hl), h⟩
    · obtain ⟨w, hw, o⟩ := r.sl j s (k j s q e)
      exact ⟨w, by rw [List.getElem?_set_ne (Ne.symm q)]; exact hw, o⟩
  · have q := ko j e h1
    rw [List.getElem?_set_ne (Ne.symm q)] at h2
    exact r.ow j e a (k j _ q h1) h2
  · have q := ko j e h1
    have q' := ko l f h2
    rw [List.getElem?_set_ne (Ne.symm q)] at h3
    rw [List.getElem?_set_ne (Ne.symm q')] at h4
    exact r.un j l e f a ne (k j _ q h1) (k l _ q' h2) h3 h4
/-- .. a new object that this frame alone holds -/
theorem Rel.putOwn (r : Rel K mg F0 H0 F σ H ρ) (i : Nat) (h : OwnAt K mg F H a d) (n : F a = none) (n0 : H0 a = none) (new : ∀ (j : Nat) (e : D), j ≠ i → ρ[j]? = some (some (.own e)) → σ[j]? = some (some (.ref a)) → False) :
    Rel K mg F0 H0 F (σ.set i (some (.ref a))) H (ρ.set i (some (.own d))) := by
  have k : ∀ (j : Nat) (s : Sl), j ≠ i → (ρ.set i (some (.own d)))[j]? = some (some s) → ρ[j]? = some (some s) := fun j s ne e => by
    rw [List.getElem?_set_ne (Ne.symm ne)] at e; exact e
  refine ⟨r.fh, r.f0, r.h0, r.nw, by rw [List.length_set, List.length_set]; exact r.len, fun j s e => ?_, fun j e b h1 h2 => ?_, fun j l e f b ne h1 h2 h3 h4 => ?_⟩
  · by_cases q : j = i
    · subst q
      have hl : j < ρ.length := by
        have := (List.getElem?_eq_some_iff.mp e).1
        rwa [List.length_set] at this
      rw [List.getElem?_set_self hl] at e
      cases e
      exact ⟨.ref a, List.getElem?_set_self (by rw [← r.len]; exact hl), a, rfl, n, h⟩
    · obtain ⟨w, hw, o⟩ := r.sl j s (k j s q e)
      exact ⟨w, by rw [List.getElem?_set_ne (Ne.symm q)]; exact hw, o⟩
  · by_cases q : j = i
    · subst q
      have hl : j < σ.length := by
        have := (List.getElem?_eq_some_iff.mp h2).1
        rwa [List.length_set] at this
      rw [List.getElem?_set_self hl] at h2
      cases h2
      exact n0
    · rw [List.getElem?_set_ne (Ne.symm q)] at h2
      exact r.ow j e b (k j _ q h1) h2
  · have at_ : ∀ (j : Nat), j = i → (σ.set i (some (V.ref a)))[j]? = some (some (.ref b)) → b = a := fun j q h => by
      subst q
      have hl : j < σ.length := by
        have := (List.getElem?_eq_some_iff.mp h).1
        rwa [List.length_set] at this
      rw [List.getElem?_set_self hl] at h
      cases h; rfl
    by_cases q : j = i
    · have ql : l ≠ i := fun z => ne (q.trans z.symm)
      have eb := at_ j q h3
      subst eb
      rw [List.getElem?_set_ne (Ne.symm ql)] at h4
      exact new l f ql (k l _ ql h2) h4
    · by_cases q' : l = i
      · have eb := at_ l q' h4
        subst eb
        rw [List.getElem?_set_ne (Ne.symm q)] at h3
        exact new j e q (k j _ q h1) h3
      · rw [List.getElem?_set_ne (Ne.symm q)] at h3
        rw [List.getElem?_set_ne (Ne.symm q')] at h4
        exact r.un j l e f b ne (k j _ q h1) (k l _ q' h2) h3 h4
/-- what a slot holds alone is changed -/
theorem Rel.write {u : HO} (r : Rel K mg F0 H0 F σ H ρ) (e : ρ[i]? = some (some (.own d0))) (es : σ[i]? = some (some (.ref a))) (h : OwnAt K mg F (upd H a u) a d) : Rel K mg F0 H0 F σ (upd H a u) (ρ.set i (some (.own d))) := by
  obtain ⟨v, hv, b, rfl, n, o⟩ := r.sl i _ e
  have hb : b = a := by rw [es] at hv; cases hv; rfl
  subst hb
  have n0 := r.ow i _ b e es
  have hil : i < ρ.length := (List.getElem?_eq_some_iff.mp e).1
  have k : ∀ (j : Nat) (s : Sl), j ≠ i → (ρ.set i (some (.own d)))[j]? = some (some s) → ρ[j]? = some (some s) := fun j s ne e => by
    rw [List.getElem?_set_ne (Ne.symm ne)] at e; exact e
  have fh : Same F (upd H b u) := fun c w hc => by
    rw [upd_ne (ne_of_none hc n)]; exact r.fh c w hc
  refine ⟨fh, r.f0, fun c w hc => by rw [upd_ne (ne_of_none hc n0)]; exact r.h0 c w hc, r.nw, by rw [List.length_set]; exact r.len, fun j s q => ?_, fun j f c h1 h2 => ?_, fun j l f g c ne h1 h2 h3 h4 => ?_⟩
  · by_cases z : j = i
    · subst z
      rw [List.getElem?_set_self hil] at q
      cases q
      exact ⟨_, es, b, rfl, n, h⟩
    · have q' := k j s z q
      obtain ⟨w, hw, o'⟩ := r.sl j s q'
      refine ⟨w, hw, ?_⟩
      cases s with
      | val d' => exact o'
      | own d' =>
        obtain ⟨c, rfl, n', o''⟩ := o'
        have ncb : c ≠ b := fun zz => by subst zz; exact r.un j i d' d0 c z q' e hw es
        exact ⟨c, rfl, n', o''.mono (Same.refl F) (upd_ne ncb)⟩
  · by_cases z : j = i
    · subst z; exact r.ow j d0 c e h2
    · exact r.ow j f c (k j _ z h1) h2
  · by_cases z : j = i
    · subst z
      have zl : l ≠ j := fun q => ne q.symm
      exact r.un j l d0 g c ne e (k l _ zl h2) h3 h4
    · by_cases z' : l = i
      · subst z'; exact r.un j l f d0 c ne (k j _ z h1) e h3 h4
      · exact r.un j l f g c ne (k j _ z h1) (k l _ z' h2) h3 h4
/-- what a slot holds alone is frozen -/
theorem Rel.freeze (r : Rel K mg F0 H0 F σ H ρ) (e : ρ[i]? = some (some (.own d))) : ∃ a u, H a = some u ∧ Mut (some u) ∧ ρ.length = σ.length ∧ σ[i]? = some (some (.ref a)) ∧ F a = none ∧ OwnAt K mg F H a d ∧ ∀ ob, Same F (upd F a (frzTo ob u)) ∧ Rel K mg F0 H0 (upd F a (frzTo ob u)) σ (upd H a (frzTo ob u)) (ρ.set i (some (.val d))) := by
  obtain ⟨v, hv, a, rfl, n, o⟩ := r.sl i _ e
  obtain ⟨u, hu, mu⟩ := o.some
  have n0 := r.ow i _ a e hv
  have hil : i < ρ.length := (List.getElem?_eq_some_iff.mp e).1
  have ko : ∀ (j : Nat) (e : D), (ρ.set i (some (.val d)))[j]? = some (some (.own e)) → j ≠ i ∧ ρ[j]? = some (some (.own e)) := fun j e h => by
    by_cases q : j = i
    · subst q
      rw [List.getElem?_set_self hil] at h
      cases h
    · rw [List.getElem?_set_ne (Ne.symm q)] at h
      exact ⟨q, h⟩
  refine ⟨a, u, hu, mu, r.len, hv, n, o, fun ob => ?_⟩
  have ff : Same F (upd F a (frzTo ob u)) := same_upd n
  refine ⟨ff, same_upd2 r.fh, r.f0.trans ff, fun c w hc => ?_, fun c w hc hn => ?_, by rw [List.length_set]; exact r.len, fun j s q => ?_, fun j f c h1 h2 => r.ow j f c (ko j f h1).2 h2, fun j l f g c ne h1 h2 h3 h4 => r.un j l f g c ne (ko j f h1).2 (ko l g h2).2 h3 h4⟩
  · rw [upd_ne (ne_of_none hc n0)]; exact r.h0 c w hc
  · by_cases q : c = a
    · subst q; exact .inl n0
    · rw [upd_ne q] at hc; exact r.nw c w hc hn
  · by_cases z : j = i
    · subst z
      rw [List.getElem?_set_self hil] at q
      cases q
      exact ⟨_, hv, o.dat ob n hu⟩
    · rw [List.getElem?_set_ne (Ne.symm z)] at q
      obtain ⟨w, hw, o'⟩ := r.sl j s q
      refine ⟨w, hw, ?_⟩
      cases s with
      | val d' => exact o'.mono ff
      | own d' =>
        obtain ⟨c, rfl, n', o''⟩ := o'
        have ncb : c ≠ a := fun zz => by subst zz; exact r.un j i d' d c z q e hw hv
        exact ⟨c, rfl, by rw [upd_ne ncb]; exact n', o''.mono ff (upd_ne ncb)⟩
/-- the frozen form of what stands at an address, in the invariant -/
theorem Inv.frozen {X : Cx} {pins : List (Addr × Obj)} {s : Shared} {u : HO} (I : Inv X pins σ H s) (h : H a = some u) (mu : Mut (some u)) : ∃ ob, Inv X pins σ (upd H a (frzTo ob u)) s := by
  have same : Inv X pins σ (upd H a u) s := by
    have e : upd H a u = H := funext fun b => by
      by_cases q : b = a
      · rw [q, upd_same, h]
      · rw [upd_ne q]
    rw [e]; exact I
  cases u with
  | dK kvs => exact I.lock h mu
  | dT kvs => exact I.lock h mu
  | lst xs => exact ⟨default, same⟩
  | set S n => exact ⟨default, same⟩
  | ins C dx fs => exact ⟨default, same⟩
  | ext φ => exact ⟨default, same⟩
  | _ => exact False.elim mu
end
end L2.Pv

set_option Elab.async false
set_option linter.all false
set_option maxRecDepth 100000
set_option maxHeartbeats 4000000
set_option autoImplicit false
/-! Operations upon data. -/
namespace L2.Pv
open PySem PySem.Spec PyProof.Rows

section
variable (K : KW) (mg : Str → Option Value)
/-- a value read: data, or what a slot alone holds -/
def DatB (F H : Hp) (v : V) (d : D) : Prop := Dat K mg F v d ∨ ∃ a, v = .ref a ∧ F a = none ∧ OwnAt K mg F H a d
end
section
variable {K : KW} {mg : Str → Option Value} {F H F' H' : Hp} {v : V} {d : D}
theorem DatB.ext (x : Ext F H F' H') (b : DatB K mg F H v d) : DatB K mg F' H' v d := by
  rcases b with b | ⟨a, e, n, o⟩
  · exact .inl (b.mono x.ff)
  · obtain ⟨u, hu, mu⟩ := o.some
    exact .inr ⟨a, e, x.own n hu mu, o.mono x.ff ((x.hh a u hu).trans hu.symm)⟩
theorem DatB.non (b : DatB K mg F H v .non) : v = .non := by
  rcases b with b | ⟨a, e, n, o⟩
  · cases b; rfl
  · exact False.elim o
theorem DatB.bl {x : Bool} (b : DatB K mg F H v (.bl x)) : v = .bl x := by
  rcases b with b | ⟨a, e, n, o⟩
  · cases b; rfl
  · exact False.elim o
theorem DatB.int {x : Int} (b : DatB K mg F H v (.int x)) : v = .int x := by
  rcases b with b | ⟨a, e, n, o⟩
  · cases b; rfl
  · exact False.elim o
theorem DatB.str {x : Str} (b : DatB K mg F H v (.str x)) : v = .str x := by
  rcases b with b | ⟨a, e, n, o⟩
  · cases b; rfl
  · exact False.elim o
theorem DatB.tup {ds : List D} (fh : Same F H) (b : DatB K mg F H v (.tup ds)) : ∃ a xs, v = .ref a ∧ F a = some (.tup xs) ∧ H a = some (.tup xs) ∧ DatL K mg F xs ds := by
  rcases b with b | ⟨a, e, n, o⟩
  · cases b with | tup h l => exact ⟨_, _, rfl, h, fh _ _ h, l⟩
  · exact False.elim o
theorem DatB.lst {ds : List D} (fh : Same F H) (b : DatB K mg F H v (.lst ds)) : ∃ a xs, v = .ref a ∧ H a = some (.lst xs) ∧ DatL K mg F xs ds := by
  rcases b with b | ⟨a, e, n, o⟩
  · cases b with | lst h l => exact ⟨_, _, rfl, fh _ _ h, l⟩
  · obtain ⟨xs, h, l⟩ := o; exact ⟨a, xs, e, h, l⟩
theorem DatB.scr {ns : List Int} (fh : Same F H) (b : DatB K mg F H v (.scr ns)) : ∃ a, v = .ref a ∧ SqL K H a (ns.map V.int) := by
  rcases b with b | ⟨a, e, n, o⟩
  · cases b with | scr h => exact ⟨_, rfl, SqL.mono fh h⟩
  · exact False.elim o
theorem DatB.dctK {ps : List (D × D)} (fh : Same F H) (b : DatB K mg F H v (.dct false ps)) : ∃ a kvs, v = .ref a ∧ Rd H a (.dK kvs) ∧ DatK K mg F kvs ps := by
  rcases b with b | ⟨a, e, n, o⟩
  · cases b with | dctK h l => exact ⟨_, _, rfl, .inr ⟨_, fh _ _ h⟩, l⟩
  · obtain ⟨xs, h, l⟩ := o; exact ⟨a, xs, e, .inl h, l⟩
theorem DatB.dctT {ps : List (D × D)} (fh : Same F H) (b : DatB K mg F H v (.dct true ps)) : ∃ a kvs, v = .ref a ∧ Rd H a (.dT kvs) ∧ DatT K mg F kvs ps := by
  rcases b with b | ⟨a, e, n, o⟩
  · cases b with | dctT h l => exact ⟨_, _, rfl, .inr ⟨_, fh _ _ h⟩, l⟩
  · obtain ⟨xs, h, l⟩ := o; exact ⟨a, xs, e, .inl h, l⟩
theorem DatB.dcn {ps : List (D × D)} (fh : Same F H) (b : DatB K mg F H v (.dcn ps)) : ∃ a xs, v = .ref a ∧ H a = some (DnO K.w a xs) ∧ DatN K mg F xs ps := by
  rcases b with b | ⟨a, e, n, o⟩
  · cases b with | dcn h l => exact ⟨_, _, rfl, fh _ _ h, l⟩
  · obtain ⟨xs, h, l⟩ := o; exact ⟨a, xs, e, h, l⟩
theorem DatB.obj {c : Str} {fs : List (Str × D)} (fh : Same F H) (b : DatB K mg F H v (.obj c fs)) : ∃ a C dx fv, v = .ref a ∧ mg c = some (.ref C) ∧ H a = some (.ins C dx fv) ∧ DatF K mg F fv fs := by
  rcases b with b | ⟨a, e, n, o⟩
  · cases b with | obj h1 h2 l => exact ⟨_, _, _, _, rfl, h1, fh _ _ h2, l⟩
  · obtain ⟨C, dx, fv, h1, h2, l⟩ := o; exact ⟨a, C, dx, fv, e, h1, h2, l⟩

/-! ### data that holds no dicts, as the library's own -/
mutual
def D.py : D → PyData
  | .non => .none
  | .bl b => .bool b
  | .int i => .int i
  | .str x => .str x
  | .tup xs => .tuple (D.pys xs)
  | .lst xs => .list (D.pys xs)
  | .dct _ _ => .dict []
  | .dcn _ => .dict []
  | .obj _ _ => .dict []
  | .scr _ => .dict []
def D.pys : List D → List PyData
  | [] => []
  | d :: ds => d.py :: D.pys ds
end
mutual
theorem Dat.dp {F : Hp} : ∀ {v : V} {d : D}, Dat K mg F v d → d.py.canLay0 = true → Dp K F v d.py
  | _, _, .non, _ => .non
  | _, _, .bl b, _ => .bl b
  | _, _, .int i, _ => .int i
  | _, _, .str x, _ => .str x
  | _, _, .tup h l, e => .tup (SqT.of h) (DatL.dp l e)
  | _, _, .lst h l, e => .lst (SqL.of h) (DatL.dp l e)
  | _, _, .scr _, e => by cases e
  | _, _, .dctK _ _, e => by cases e
  | _, _, .dctT _ _, e => by cases e
  | _, _, .obj _ _ _, e => by cases e
theorem DatL.dp {F : Hp} : ∀ {v : List V} {d : List D}, DatL K mg F v d → PyData.canLayAll0 (D.pys d) = true → DpAll K F v (D.pys d)
  | _, _, .nil, _ => .nil
  | _, _, .cons h l, e => .cons (Dat.dp h (Bool.and_eq_true_iff.mp e).1) (DatL.dp l (Bool.and_eq_true_iff.mp e).2)
end
theorem DatB.toDat (fh : Same F H) (b : DatB K mg F H v d) (e : d.py.canLay0 = true) : ∃ G, Same F G ∧ Same G H ∧ Dat K mg G v d := by
  rcases b with b | ⟨a, e, n, o⟩
  · exact ⟨F, Same.refl F, fh, b⟩
  · subst e
    cases d with
    | lst ds =>
      obtain ⟨vs, hu, l⟩ := o
      refine ⟨upd F a (.lst vs), same_upd n, fun c w hc => ?_, .lst upd_same (l.mono (same_upd n))⟩
      by_cases q : c = a
      · subst q; rw [upd_same] at hc; cases hc; exact hu
      · rw [upd_ne q] at hc; exact fh c w hc
    | dct t ps => cases e
    | dcn ps => cases e
    | obj c fs => cases e
    | _ => exact False.elim o
theorem DatB.dp (fh : Same F H) (b : DatB K mg F H v d) (e : d.py.canLay0 = true) : Dp K H v d.py := by
  obtain ⟨G, _, gh, q⟩ := b.toDat fh e
  exact (q.mono gh).dp e
end

/-- how long a list or a text may grow -/
def lim : Nat := 1000000
theorem lim_line {n : Nat} (h : n ≤ lim) : n ≤ sizeLine := Nat.le_trans h (by decide)
theorem lim_lt {n : Nat} (h : n < lim) : n < sizeLine := Nat.lt_of_lt_of_le h (by decide)

/-! ### the operations -/
def D.add (x y : D) : Option D := match x, y with
  | .int i, .int j => some (.int (i + j))
  | .str i, .str j => if i.length + j.length ≤ lim then some (.str (i ++ j)) else none
  | .tup xs, .tup ys => if xs.length + ys.length ≤ lim then some (.tup (xs ++ ys)) else none
  | .lst xs, .lst ys => if xs.length + ys.length ≤ lim then some (.lst (xs ++ ys)) else none
  | _, _ => none
def D.sub (x y : D) : Option D := match x, y with
  | .int i, .int j => some (.int (i - j))
  | _, _ => none
def smallI (i : Int) : Bool := decide (-(2 ^ 64) < i) && decide (i < 2 ^ 64)
def D.mul (x y : D) : Option D := match x, y with
  | .int i, .int j => if smallI i || smallI j then some (.int (i * j)) else none
  | .tup xs, .int k => if k = 1 then some (.tup xs) else if xs.isEmpty || decide (k < 2) || decide (1000 < k) || decide (1000 < xs.length) then none else some (.tup (List.replicate k.toNat xs).flatten)
  | .lst xs, .int k => if decide (k < 0) || decide (1000 < k) || decide (1000 < xs.length) then none else some (.lst (List.replicate k.toNat xs).flatten)
  | _, _ => none
def D.mod (x y : D) : Option D := match x, y with
  | .int i, .int j => if 0 < j then some (.int (i % j)) else none
  | _, _ => none
def D.fdiv (x y : D) : Option D := match x, y with
  | .int i, .int j => if decide (0 < j) && decide (j < 1073741824) then some (.int (i / j)) else none
  | _, _ => none
def D.pow (x y : D) : Option D := match x, y with
  | .int i, .int j => if decide (0 ≤ j) && (decide (j ≤ 1000000) && decide (i.natAbs < 2 ^ 64)) then some (.int (i ^ j.toNat)) else none
  | _, _ => none
def D.lt (x y : D) : Option D := match x, y with
  | .int i, .int j => some (.bl (decide (i < j)))
  | _, _ => none
def D.le (x y : D) : Option D := match x, y with
  | .int i, .int j => some (.bl (decide (i ≤ j)))
  | _, _ => none
def D.gt (x y : D) : Option D := match x, y with
  | .int i, .int j => some (.bl (decide (j < i)))
  | _, _ => none
def D.ge (x y : D) : Option D := match x, y with
  | .int i, .int j => some (.bl (decide (j ≤ i)))
  | _, _ => none
def D.eqb (x y : D) : Bool := PyData.eqv x.py y.py
def D.eq (x y : D) : Option D := if SeqAt.shaped x.py && SeqAt.shaped y.py then some (.bl (x.eqb y)) else none
def D.ne (x y : D) : Option D := if SeqAt.shaped x.py && SeqAt.shaped y.py then some (.bl (!x.eqb y)) else none
def D.isN (x y : D) : Option D := match y, x with
  | .non, .non => some (.bl true)
  | .non, _ => some (.bl false)
  | .bl b, .bl a => some (.bl (decide (a = b)))
  | _, _ => none
def D.isNn (x y : D) : Option D := match y, x with
  | .non, .non => some (.bl false)
  | .non, _ => some (.bl true)
  | .bl b, .bl a => some (.bl (!decide (a = b)))
  | _, _ => none

section
variable {X : Cx}
/-- a two-place operation upon data -/
def rM (K : KW) (mg : Str → Option Value) (g : D → D → Option D) : R2 := fun x y H Q => ∃ F dx dy d, Same F H ∧ DatB K mg F H x dx ∧ DatB K mg F H y dy ∧ g dx dy = some d ∧
  ∀ F' H' v, Ext F H F' H' → Dat K mg F' v d → Q v H'
def OpM (X : Cx) (f : Value → Value → Sem Value) (g : D → D → Option D) : Prop := OpR X f (rM X.kw X.mg g)

theorem tup_new {K : KW} {mg : Str → Option Value} {F H : Hp} {xs : List V} {ds : List D} {Q : VK} (fh : Same F H) (l : DatL K mg F xs ds) (k : ∀ F' H' v, Ext F H F' H' → Dat K mg F' v (.tup ds) → Q v H') : ∀ p, H p = none → Q (.ref p) (upd H p (.tup xs)) := fun p n =>
  k _ _ _ (Ext.new fh n) (.tup upd_same (l.mono (same_upd (fh.free n))))
theorem lst_new {K : KW} {mg : Str → Option Value} {F H : Hp} {xs : List V} {ds : List D} {Q : VK} (fh : Same F H) (l : DatL K mg F xs ds) (k : ∀ F' H' v, Ext F H F' H' → Dat K mg F' v (.lst ds) → Q v H') : ∀ p, H p = none → Q (.ref p) (upd H p (.lst xs)) := fun p n =>
  k _ _ _ (Ext.new fh n) (.lst upd_same (l.mono (same_upd (fh.free n))))

theorem opm_add : OpM X (binaryOp .Add) D.add := by
  intro pins s σ H x y v u Q I rx ry h
  obtain ⟨F, dx, dy, d, fh, hx, hy, e, k⟩ := h
  unfold D.add at e
  split at e
  · cases e
    exact op_add pins s σ H _ _ v u Q I rx ry ⟨_, _, hx.int, hy.int, k F H _ (Ext.refl fh) (.int _)⟩
  · split at e
    · rename_i hl
      cases e
      exact op_add_str pins s σ H _ _ v u Q I rx ry ⟨_, _, hx.str, hy.str, lim_line hl, k F H _ (Ext.refl fh) (.str _)⟩
    · cases e
  · split at e
    · rename_i hl
      cases e
      obtain ⟨a, xs, rfl, f1, h1, l1⟩ := hx.tup fh
      obtain ⟨b, ys, rfl, f2, h2, l2⟩ := hy.tup fh
      rw [← l1.len, ← l2.len] at hl
      refine op_catA pins s σ H _ _ v u Q I rx ry ⟨a, b, xs, ys, rfl, rfl, SqT.of h1, SqT.of h2, lim_line hl, fun z => ?_, fun _ z => ?_, fun _ _ => tup_new fh (l1.app l2) k⟩
      · subst z; cases l1
        exact k F H _ (Ext.refl fh) (.tup f2 l2)
      · subst z; cases l2
        exact k F H _ (Ext.refl fh) (by rw [List.append_nil]; exact .tup f1 l1)
    · cases e
  · split at e
    · rename_i hl
      cases e
      obtain ⟨a, xs, rfl, h1, l1⟩ := hx.lst fh
      obtain ⟨b, ys, rfl, h2, l2⟩ := hy.lst fh
      rw [← l1.len, ← l2.len] at hl
      exact op_cat pins s σ H _ _ v u Q I rx ry ⟨a, b, xs, ys, rfl, rfl, h1, h2, lim_line hl, lst_new fh (l1.app l2) k⟩
    · cases e
  · cases e
theorem opm_sub : OpM X (binaryOp .Sub) D.sub := by
  intro pins s σ H x y v u Q I rx ry h
  obtain ⟨F, dx, dy, d, fh, hx, hy, e, k⟩ := h
  unfold D.sub at e
  split at e
  · cases e
    exact op_sub pins s σ H _ _ v u Q I rx ry ⟨_, _, hx.int, hy.int, k F H _ (Ext.refl fh) (.int _)⟩
  · cases e
theorem smallI_ok {i : Int} (h : smallI i = true) : -(2 ^ 64) < i ∧ i < 2 ^ 64 := by
  unfold smallI at h
  simp only [Bool.and_eq_true, decide_eq_true_eq] at h
  exact h
theorem DatL.rep {K : KW} {mg : Str → Option Value} {F : Hp} {xs : List V} {ds : List D} (l : DatL K mg F xs ds) : ∀ n : Nat, DatL K mg F (List.replicate n xs).flatten (List.replicate n ds).flatten
  | 0 => .nil
  | n + 1 => by
    rw [List.replicate_succ, List.replicate_succ, List.flatten_cons, List.flatten_cons]
    exact l.app (l.rep n)
theorem tuple_mul1 (l : Addr) (items : Array Value) (n : Nat) (dd : Option Addr) (sl : Array (Option Value)) (u : Tok) :
    Meets (Builtin.«tuple.__mul__» ⟨[.ref l, .int 1 u], []⟩) (fun _ R s => s.heap.get? l = some { cls := .type "tuple", dict := dd, data := .seq items n, slots := sl } ∧
      R (.ok (.ret (Value.ref l))) s) :=
  .of_wp fun prog w A R s h => by
    obtain ⟨hp, g, d, tk, os⟩ := s
    obtain ⟨hl, h⟩ := h
    have f1 := AutoSeq1.idx_int
    wp_walk using wpAny_loadPart' hl
    exact ⟨_, rfl, h⟩
/-- a tuple once: the tuple itself -/
theorem op_rep1 : OpR X (binaryOp .Mult) (fun x y H Q => ∃ l xs, x = V.ref l ∧ y = .int 1 ∧ SqT X.K H l xs ∧ Q (.ref l) H) := by
  intro pins s σ H x y v u Q I rx ry h
  obtain ⟨l, xs, rfl, rfl, hT, q⟩ := h
  cases rx
  obtain ⟨t, rfl⟩ := ry
  obtain ⟨its, r, ⟨⟨cls, dd, data, sl⟩, ho, hc, n, hd⟩, hs⟩ := I.tuple hT
  simp only at hc hd
  subst hc hd
  refine wpAny_binaryOp_repeat_ref (T := "tuple") (U := "int") (by decide) ⟨_, ho, rfl⟩ (fun s' => typeIs_int s' 1 t) noFill_tuple_mul F.fills_int_mul F.slot_int_rmul repeat_tuple F.slot_int_index.lookup
    (call_meets F.slot_int_rmul (typeIs_int s 1 t) F.entry_int_rmul (F.args_int_rmul_2 _ _) (int_rmul_tuple 1 t l its.toArray n dd sl)
      ⟨ho, rfl, ⟨_, ho, rfl⟩, call_meets F.slot_tuple_mul ⟨_, ho, rfl⟩ F.entry_tuple_mul (F.args_tuple_mul_2 _ _) (tuple_mul1 l its.toArray n dd sl t) ⟨ho, ?_⟩⟩)
  exact ⟨.ref l, H, I, rfl, q⟩
theorem opm_mul : OpM X (binaryOp .Mult) D.mul := by
  intro pins s σ H x y v u Q I rx ry h
  obtain ⟨F, dx, dy, d, fh, hx, hy, e, k⟩ := h
  unfold D.mul at e
  split at e
  · split at e
    · rename_i hc
      cases e
      refine op_mul pins s σ H _ _ v u Q I rx ry ⟨_, _, hx.int, hy.int, ?_, k F H _ (Ext.refl fh) (.int _)⟩
      rcases Bool.or_eq_true_iff.mp hc with z | z
      · exact .inl (smallI_ok z)
      · exact .inr (smallI_ok z)
    · cases e
  · split at e
    · rename_i h1
      cases e
      subst h1
      obtain ⟨a, xs, rfl, f1, h1, l1⟩ := hx.tup fh
      exact op_rep1 pins s σ H _ _ v u Q I rx ry ⟨a, xs, rfl, hy.int, SqT.of h1, k F H _ (Ext.refl fh) (.tup f1 l1)⟩
    split at e
    · cases e
    · rename_i hc
      cases e
      obtain ⟨a, xs, rfl, f1, h1, l1⟩ := hx.tup fh
      simp only [Bool.or_eq_true, decide_eq_true_eq, not_or, Nat.not_lt, Int.not_lt] at hc
      obtain ⟨⟨⟨c1, c2⟩, c3⟩, c4⟩ := hc
      refine op_repT pins s σ H _ _ v u Q I rx ry ⟨a, _, xs, rfl, hy.int, SqT.of h1, fun z => ?_, c2, c3, by rw [l1.len]; exact c4, tup_new fh (l1.rep _) k⟩
      subst z; cases l1; exact c1 rfl
  · split at e
    · cases e
    · rename_i hc
      cases e
      obtain ⟨a, xs, rfl, h1, l1⟩ := hx.lst fh
      simp only [Bool.or_eq_true, decide_eq_true_eq, not_or, Nat.not_lt, Int.not_lt] at hc
      obtain ⟨⟨c2, c3⟩, c4⟩ := hc
      rw [← l1.len] at c4
      refine op_rep pins s σ H _ _ v u Q I rx ry ⟨a, _, xs, rfl, hy.int, h1, by omega, by omega, ?_, lst_new fh (l1.rep _) k⟩
      refine lim_line (Nat.le_trans (Nat.mul_le_mul c4 (show _ ≤ 1000 by omega)) (by decide))
  · cases e
theorem opm_mod : OpM X (binaryOp .Mod) D.mod := by
  intro pins s σ H x y v u Q I rx ry h
  obtain ⟨F, dx, dy, d, fh, hx, hy, e, k⟩ := h
  unfold D.mod at e
  split at e
  · split at e
    · rename_i hc
      cases e
      exact op_mod pins s σ H _ _ v u Q I rx ry ⟨_, _, hx.int, hy.int, hc, k F H _ (Ext.refl fh) (.int _)⟩
    · cases e
  · cases e
theorem opm_fdiv : OpM X (binaryOp .FloorDiv) D.fdiv := by
  intro pins s σ H x y v u Q I rx ry h
  obtain ⟨F, dx, dy, d, fh, hx, hy, e, k⟩ := h
  unfold D.fdiv at e
  split at e
  · split at e
    · rename_i hc
      cases e
      simp only [Bool.and_eq_true, decide_eq_true_eq] at hc
      exact op_fdiv pins s σ H _ _ v u Q I rx ry ⟨_, _, hx.int, hy.int, hc, k F H _ (Ext.refl fh) (.int _)⟩
    · cases e
  · cases e
theorem opm_pow : OpM X (binaryOp .Pow) D.pow := by
  intro pins s σ H x y v u Q I rx ry h
  obtain ⟨F, dx, dy, d, fh, hx, hy, e, k⟩ := h
  unfold D.pow at e
  split at e
  · split at e
    · rename_i hc
      cases e
      simp only [Bool.and_eq_true, decide_eq_true_eq] at hc
      exact op_pow pins s σ H _ _ v u Q I rx ry ⟨_, _, hx.int, hy.int, hc, k F H _ (Ext.refl fh) (.int _)⟩
    · cases e
  · cases e
theorem opm_lt : OpM X (compareOp .Lt) D.lt := by
  intro pins s σ H x y v u Q I rx ry h
  obtain ⟨F, dx, dy, d, fh, hx, hy, e, k⟩ := h
  unfold D.lt at e
  split at e
  · cases e
    exact op_lt pins s σ H _ _ v u Q I rx ry ⟨_, _, hx.int, hy.int, k F H _ (Ext.refl fh) (.bl _)⟩
  · cases e
theorem opm_le : OpM X (compareOp .LtE) D.le := by
  intro pins s σ H x y v u Q I rx ry h
  obtain ⟨F, dx, dy, d, fh, hx, hy, e, k⟩ := h
  unfold D.le at e
  split at e
  · cases e
    exact op_le pins s σ H _ _ v u Q I rx ry ⟨_, _, hx.int, hy.int, k F H _ (Ext.refl fh) (.bl _)⟩
  · cases e
theorem opm_gt : OpM X (compareOp .Gt) D.gt := by
  intro pins s σ H x y v u Q I rx ry h
  obtain ⟨F, dx, dy, d, fh, hx, hy, e, k⟩ := h
  unfold D.gt at e
  split at e
  · cases e
    exact op_gt pins s σ H _ _ v u Q I rx ry ⟨_, _, hx.int, hy.int, k F H _ (Ext.refl fh) (.bl _)⟩
  · cases e
theorem opm_ge : OpM X (compareOp .GtE) D.ge := by
  intro pins s σ H x y v u Q I rx ry h
  obtain ⟨F, dx, dy, d, fh, hx, hy, e, k⟩ := h
  unfold D.ge at e
  split at e
  · cases e
    exact op_ge pins s σ H _ _ v u Q I rx ry ⟨_, _, hx.int, hy.int, k F H _ (Ext.refl fh) (.bl _)⟩
  · cases e
theorem opm_eq (hu : X.A.units + 64 < cLine) : OpM X (compareOp .Eq) D.eq := by
  intro pins s σ H x y v u Q I rx ry h
  obtain ⟨F, dx, dy, d, fh, hx, hy, e, k⟩ := h
  unfold D.eq at e
  split at e
  · rename_i hc
    cases e
    obtain ⟨c1, c2⟩ := Bool.and_eq_true_iff.mp hc
    exact op_eqD hu pins s σ H _ _ v u Q I rx ry ⟨_, _, hx.dp fh (SeqAt.canLay_of_shaped c1), hy.dp fh (SeqAt.canLay_of_shaped c2), c1, c2, k F H _ (Ext.refl fh) (.bl _)⟩
  · cases e
theorem opm_ne (hu : X.A.units + 64 < cLine) : OpM X (compareOp .NotEq) D.ne := by
  intro pins s σ H x y v u Q I rx ry h
  obtain ⟨F, dx, dy, d, fh, hx, hy, e, k⟩ := h
  unfold D.ne at e
  split at e
  · rename_i hc
    cases e
    obtain ⟨c1, c2⟩ := Bool.and_eq_true_iff.mp hc
    exact op_neD hu pins s σ H _ _ v u Q I rx ry ⟨_, _, hx.dp fh (SeqAt.canLay_of_shaped c1), hy.dp fh (SeqAt.canLay_of_shaped c2), c1, c2, k F H _ (Ext.refl fh) (.bl _)⟩
  · cases e
theorem DatB.ne_non {K : KW} {mg : Str → Option Value} {F H : Hp} {v : V} {d : D} (b : DatB K mg F H v d) (h : d ≠ .non) : v ≠ .non := fun z => by
  subst z
  rcases b with b | ⟨a, e, _⟩
  · cases b; exact h rfl
  · cases e
theorem opm_isN : OpM X (compareOp .Is) D.isN := by
  intro pins s σ H x y v u Q I rx ry h
  obtain ⟨F, dx, dy, d, fh, hx, hy, e, k⟩ := h
  unfold D.isN at e
  split at e
  · cases e
    refine op_isN pins s σ H _ _ v u Q I rx ry ⟨hy.non, ?_⟩
    rw [decide_eq_true hx.non]
    exact k F H _ (Ext.refl fh) (.bl _)
  · rename_i hn
    cases e
    refine op_isN pins s σ H _ _ v u Q I rx ry ⟨hy.non, ?_⟩
    rw [decide_eq_false (hx.ne_non fun z => hn z)]
    exact k F H _ (Ext.refl fh) (.bl _)
  · cases e
    exact op_is_bl pins s σ H _ _ v u Q I rx ry ⟨_, _, hx.bl, hy.bl, k F H _ (Ext.refl fh) (.bl _)⟩
  · cases e
theorem opm_isNn : OpM X (compareOp .IsNot) D.isNn := by
  intro pins s σ H x y v u Q I rx ry h
  obtain ⟨F, dx, dy, d, fh, hx, hy, e, k⟩ := h
  unfold D.isNn at e
  split at e
  · cases e
    refine op_notN pins s σ H _ _ v u Q I rx ry ⟨hy.non, ?_⟩
    rw [decide_eq_true hx.non]
    exact k F H _ (Ext.refl fh) (.bl _)
  · rename_i hn
    cases e
    refine op_notN pins s σ H _ _ v u Q I rx ry ⟨hy.non, ?_⟩
    rw [decide_eq_false (hx.ne_non fun z => hn z)]
    exact k F H _ (Ext.refl fh) (.bl _)
  · cases e
    exact op_isnot_bl pins s σ H _ _ v u Q I rx ry ⟨_, _, hx.bl, hy.bl, k F H _ (Ext.refl fh) (.bl _)⟩
  · cases e

/-! ### in -/
def D.flat : D → Bool
  | .non => true
  | .bl _ => true
  | .int _ => true
  | .str _ => true
  | _ => false
def D.inb (x : D) (ys : List D) : Bool := ys.any fun z => z.eqb x
def D.key : D → Option Key
  | .int i => some (.inl i)
  | .str x => some (.inr x)
  | _ => none
def D.keys : List D → Option (List Key)
  | [] => some []
  | d :: ds => match d.key, D.keys ds with
    | some k, some ks => some (k :: ks)
    | _, _ => none
/-- may it be a key of such a dict -/
def D.keyOk (t : Bool) (x : D) : Bool := match t, x with
  | false, .int _ => true
  | false, .str _ => true
  | true, .tup ds => (D.keys ds).isSome
  | _, _ => false
/-- data that are keys, the same -/
def D.same (x y : D) : Bool := match x, y with
  | .int i, .int j => decide (i = j)
  | .str i, .str j => decide (i = j)
  | .tup xs, .tup ys => decide (D.keys xs = D.keys ys)
  | _, _ => false
def D.find (x : D) : List (D × D) → Option D
  | [] => none
  | p :: r => if p.1.same x then some p.2 else D.find x r
/-! dicts of nested keys -/
def D.nkOk (x : D) : Bool := match x with
  | .tup ds => match D.nk (.tup ds) with
    | some k => decide (k.depth ≤ 8)
    | none => false
  | _ => false
def D.findN (x : D) : List (D × D) → Option D
  | [] => none
  | p :: r => if D.nk p.1 = D.nk x then some p.2 else D.findN x r
def D.isIn (x y : D) : Option D := match y with
  | .lst ds => if SeqAt.shaped x.py && SeqAt.shaped (D.lst ds).py then some (.bl (x.inb ds)) else none
  | .tup ds => if (x.flat && ds.all D.flat) || (SeqAt.shaped x.py && SeqAt.shaped (D.tup ds).py) then some (.bl (x.inb ds)) else none
  | .str z => match x with
    | .str c => match c.cps.toList with
      | [n] => some (.bl (decide (n ∈ z.cps.toList)))
      | _ => none
    | _ => none
  | .dct t ps => if D.keyOk t x then some (.bl (D.find x ps).isSome) else none
  | .dcn ps => if D.nkOk x then some (.bl (D.findN x ps).isSome) else none
  | _ => none
def D.notIn (x y : D) : Option D := match D.isIn x y with
  | some (.bl b) => some (.bl (!b))
  | _ => none

theorem flat_V {K : KW} {mg : Str → Option Value} {F H : Hp} {v : V} {d : D} (b : DatB K mg F H v d) (h : d.flat = true) : flatV v = true := by
  cases d with
  | non => rw [b.non]; rfl
  | bl x => rw [b.bl]; rfl
  | int x => rw [b.int]; rfl
  | str x => rw [b.str]; rfl
  | _ => cases h
theorem eqb_V {K : KW} {mg : Str → Option Value} {F H F' H' : Hp} {v w : V} {d e : D} (b : DatB K mg F H v d) (c : DatB K mg F' H' w e) (h : d.flat = true) (h' : e.flat = true) : eqV v w = d.eqb e := by
  cases d with
  | non => rw [b.non]; cases e with
    | non => rw [c.non]; simp [eqV, D.eqb, D.py, PyData.eqv]
    | bl x => rw [c.bl]; simp [eqV, D.eqb, D.py, PyData.eqv]
    | int x => rw [c.int]; simp [eqV, D.eqb, D.py, PyData.eqv]
    | str x => rw [c.str]; simp [eqV, D.eqb, D.py, PyData.eqv]
    | _ => cases h'
  | bl x => rw [b.bl]; cases e with
    | non => rw [c.non]; simp [eqV, D.eqb, D.py, PyData.eqv]
    | bl x => rw [c.bl]; simp [eqV, D.eqb, D.py, PyData.eqv]
    | int x => rw [c.int]; simp [eqV, D.eqb, D.py, PyData.eqv]
    | str x => rw [c.str]; simp [eqV, D.eqb, D.py, PyData.eqv]
    | _ => cases h'
  | int x => rw [b.int]; cases e with
    | non => rw [c.non]; simp [eqV, D.eqb, D.py, PyData.eqv]
    | bl x => rw [c.bl]; simp [eqV, D.eqb, D.py, PyData.eqv]
    | int x => rw [c.int]; simp [eqV, D.eqb, D.py, PyData.eqv]
    | str x => rw [c.str]; simp [eqV, D.eqb, D.py, PyData.eqv]
    | _ => cases h'
  | str x => rw [b.str]; cases e with
    | non => rw [c.non]; simp [eqV, D.eqb, D.py, PyData.eqv]
    | bl x => rw [c.bl]; simp [eqV, D.eqb, D.py, PyData.eqv]
    | int x => rw [c.int]; simp [eqV, D.eqb, D.py, PyData.eqv]
    | str x => rw [c.str]; simp [eqV, D.eqb, D.py, PyData.eqv]
    | _ => cases h'
  | _ => cases h
theorem flat_Vs {K : KW} {mg : Str → Option Value} {F : Hp} : ∀ {vs : List V} {ds : List D}, DatL K mg F vs ds → ds.all D.flat = true → vs.all flatV = true
  | _, _, .nil, _ => rfl
  | _, _, .cons h l, e => by
    rw [List.all_cons, Bool.and_eq_true] at e ⊢
    exact ⟨flat_V (H := F) (.inl h) e.1, flat_Vs l e.2⟩
theorem inb_V {K : KW} {mg : Str → Option Value} {F F' H' : Hp} {w : V} {e : D} (c : DatB K mg F' H' w e) (h' : e.flat = true) : ∀ {vs : List V} {ds : List D}, DatL K mg F vs ds → ds.all D.flat = true → inV w vs = e.inb ds
  | _, _, .nil, _ => rfl
  | _, _, .cons h l, z => by
    rw [List.all_cons, Bool.and_eq_true] at z
    have ih := inb_V c h' l z.2
    unfold inV D.inb at ih ⊢
    rw [List.any_cons, List.any_cons, ih, eqb_V (H := F) (.inl h) c z.1 h']
theorem eqvb_pys (x : D) : ∀ ds : List D, ((D.pys ds).any fun z => PyData.eqv z x.py) = x.inb ds
  | [] => rfl
  | d :: ds => by
    have ih := eqvb_pys x ds
    unfold D.inb at ih ⊢
    rw [D.pys, List.any_cons, List.any_cons, ih]
    rfl

/-! ### dicts -/
theorem keyD_same (k : Key) {x : D} {j : Key} (h : D.key x = some j) : (keyD k).same x = decide (k = j) := by
  cases x with
  | int i => cases h; cases k with
    | inl n => by_cases e : n = i <;> simp [keyD, D.same, e]
    | inr n => simp [keyD, D.same]
  | str i => cases h; cases k with
    | inl n => simp [keyD, D.same]
    | inr n => by_cases e : n = i <;> simp [keyD, D.same, e]
  | _ => cases h
theorem D.key_keyD (k : Key) : D.key (keyD k) = some k := by cases k <;> rfl
theorem D.keys_map : ∀ ks : List Key, D.keys (ks.map keyD) = some ks
  | [] => rfl
  | k :: ks => by simp only [List.map_cons, D.keys, D.key_keyD, D.keys_map ks]
theorem keyD_sameT (k : List Key) {xs : List D} {j : List Key} (h : D.keys xs = some j) : (D.tup (k.map keyD)).same (.tup xs) = decide (k = j) := by
  show decide (D.keys (k.map keyD) = D.keys xs) = _
  rw [D.keys_map, h]
  by_cases e : k = j <;> simp [e]
theorem find_K {K : KW} {mg : Str → Option Value} {F : Hp} {x : D} {j : Key} (h : D.key x = some j) : ∀ {kvs : List (Key × V)} {ps : List (D × D)}, DatK K mg F kvs ps →
    (valV kvs j = none ∧ D.find x ps = none) ∨ ∃ v d, valV kvs j = some v ∧ D.find x ps = some d ∧ Dat K mg F v d
  | _, _, .nil => .inl ⟨rfl, rfl⟩
  | _, _, .cons (k := k) (v := v) (d := d) hv l => by
    unfold D.find
    rw [keyD_same k h]
    by_cases e : k = j
    · rw [if_pos (decide_eq_true e), valV_pos e]
      exact .inr ⟨v, d, rfl, rfl, hv⟩
    · rw [if_neg (by rw [decide_eq_false e]; exact Bool.false_ne_true), valV_neg e]
      exact find_K h l
theorem find_T {K : KW} {mg : Str → Option Value} {F : Hp} {xs : List D} {j : List Key} (h : D.keys xs = some j) : ∀ {kvs : List (List Key × V)} {ps : List (D × D)}, DatT K mg F kvs ps →
    (valV kvs j = none ∧ D.find (.tup xs) ps = none) ∨ ∃ v d, valV kvs j = some v ∧ D.find (.tup xs) ps = some d ∧ Dat K mg F v d
  | _, _, .nil => .inl ⟨rfl, rfl⟩
  | _, _, .cons (k := k) (v := v) (d := d) hv l => by
    unfold D.find
    rw [keyD_sameT k h]
    by_cases e : k = j
    · rw [if_pos (decide_eq_true e), valV_pos e]
      exact .inr ⟨v, d, rfl, rfl, hv⟩
    · rw [if_neg (by rw [decide_eq_false e]; exact Bool.false_ne_true), valV_neg e]
      exact find_T h l
theorem key_V {K : KW} {mg : Str → Option Value} {F H : Hp} {v : V} {x : D} {j : Key} (b : DatB K mg F H v x) (h : D.key x = some j) : v = kV j := by
  cases x with
  | int i => cases h; rw [b.int]; rfl
  | str i => cases h; rw [b.str]; rfl
  | _ => cases h
theorem keys_V {K : KW} {mg : Str → Option Value} {F : Hp} : ∀ {vs : List V} {xs : List D} {j : List Key}, DatL K mg F vs xs → D.keys xs = some j → vs = j.map kV
  | _, _, _, .nil, h => by cases h; rfl
  | _, _, _, .cons (d := d) (ds := ds) hv l, h => by
    unfold D.keys at h
    split at h
    · rename_i k ks h1 h2
      cases h
      rw [key_V (H := F) (.inl hv) h1, keys_V l h2]
      rfl
    · cases h
/-- what a dict holds under a key that may be one -/
theorem DatB.get {K : KW} {mg : Str → Option Value} {F H : Hp} {v w : V} {t : Bool} {x : D} {ps : List (D × D)} (fh : Same F H) (b : DatB K mg F H v (.dct t ps)) (c : DatB K mg F H w x) (h : D.keyOk t x = true) : ∃ a, v = .ref a ∧ ((DGet H a w none ∧ D.find x ps = none) ∨ ∃ u d, DGet H a w (some u) ∧ D.find x ps = some d ∧ Dat K mg F u d) := by
  cases t with
  | false =>
    obtain ⟨a, kvs, rfl, r, l⟩ := b.dctK fh
    obtain ⟨j, hj⟩ : ∃ j, D.key x = some j := by
      cases x with
      | int i => exact ⟨_, rfl⟩
      | str i => exact ⟨_, rfl⟩
      | _ => cases h
    have e := key_V c hj
    subst e
    refine ⟨a, rfl, ?_⟩
    rcases find_K hj l with ⟨h1, h2⟩ | ⟨u, d, h1, h2, h3⟩
    · exact .inl ⟨.inl ⟨kvs, j, r, rfl, h1.symm⟩, h2⟩
    · exact .inr ⟨u, d, .inl ⟨kvs, j, r, rfl, h1.symm⟩, h2, h3⟩
  | true =>
    obtain ⟨a, kvs, rfl, r, l⟩ := b.dctT fh
    cases x with
    | tup xs =>
      obtain ⟨j, hj⟩ : ∃ j, D.keys xs = some j := Option.isSome_iff_exists.mp h
      obtain ⟨b, ys, rfl, _, h2', l2⟩ := c.tup fh
      have e := keys_V l2 hj
      subst e
      refine ⟨a, rfl, ?_⟩
      rcases find_T hj l with ⟨h1, h2⟩ | ⟨u, d, h1, h2, h3⟩
      · exact .inl ⟨.inr ⟨kvs, j, b, r, rfl, h2', h1.symm⟩, h2⟩
      · exact .inr ⟨u, d, .inr ⟨kvs, j, b, r, rfl, h2', h1.symm⟩, h2, h3⟩
    | _ => cases h

theorem nkOk_some {x : D} (h : x.nkOk = true) : ∃ ds k, x = .tup ds ∧ D.nk x = some k ∧ k.depth ≤ 8 := by
  cases x with
  | tup ds =>
    unfold D.nkOk at h
    dsimp only at h
    cases e : D.nk (.tup ds) with
    | some k => rw [e] at h; exact ⟨ds, k, rfl, (by first | rfl | exact e), of_decide_eq_true h⟩
    | none => rw [e] at h; cases h
  | _ => cases h
mutual
/-- such data are such keys -/
theorem nk_is {pins : List (Addr × Obj)} {σ : St} {H F : Hp} {s : Shared} (I : Inv X pins σ H s) (fh : Same F H) : ∀ {v : V} {d : D} {k : NestedKey} {u : Value}, Dat X.kw X.mg F v d → D.nk d = some k → RelV v u → NestedIs s.heap k u
  | _, _, _, _, .non, h, r => by cases h; cases (show _ = Value.none from r); exact .none
  | _, _, _, _, .int i, h, r => by cases h; obtain ⟨t, rfl⟩ := (show ∃ t, _ = Value.int i t from r); exact .int _ _
  | _, _, _, _, .str x, h, r => by cases h; obtain ⟨t, rfl⟩ := (show ∃ t, _ = Value.str x t from r); exact .text _ _
  | _, _, _, _, .tup (ds := ds) e l, h, r => by
    cases (show _ = Value.ref _ from r)
    have h' : (D.nks ds).map NestedKey.tup = some _ := h
    cases q : D.nks ds with
    | none => rw [q] at h'; cases h'
    | some ks =>
      rw [q] at h'; cases h'
      obtain ⟨_, its, vr, o, h1, h2, n, h3⟩ := I.hok _ _ (fh _ _ e)
      exact .tup h1 h2 h3 (by simpa using nks_is I fh l q vr)
  | _, _, _, _, .bl _, h, _ => by cases h
  | _, _, _, _, .lst _ _, h, _ => by cases h
  | _, _, _, _, .scr _, h, _ => by cases h
  | _, _, _, _, .dctK _ _, h, _ => by cases h
  | _, _, _, _, .dctT _ _, h, _ => by cases h
  | _, _, _, _, .dcn _ _, h, _ => by cases h
  | _, _, _, _, .obj _ _ _, h, _ => by cases h
theorem nks_is {pins : List (Addr × Obj)} {σ : St} {H F : Hp} {s : Shared} (I : Inv X pins σ H s) (fh : Same F H) : ∀ {vs : List V} {ds : List D} {ks : List NestedKey} {us : List Value}, DatL X.kw X.mg F vs ds → D.nks ds = some ks → Vals vs us → NestedAll s.heap ks us
  | _, _, _, _, .nil, h, r => by cases h; cases r; exact .nil
  | _, _, _, _, .cons (d := d) (ds := ds) q l, h, r => by
    cases r with
    | cons r1 r2 =>
      unfold D.nks at h
      split at h
      · rename_i k ks e1 e2
        cases h
        exact .cons (nk_is I fh q e1 r1) (nks_is I fh l e2 r2)
      · cases h
end
theorem dn_keys {pins : List (Addr × Obj)} {σ : St} {H F : Hp} {s : Shared} (I : Inv X pins σ H s) (fh : Same F H) : ∀ {xs : List (NestedKey × Addr × Value)} {ps : List (D × D)}, DatN X.kw X.mg F xs ps → ∀ x ∈ xs, (nestedKind X.prog X.w).is s.heap x.1 x.2.1
  | _, _, .nil, x, hx => by cases hx
  | _, _, .cons e1 e2 q r z l, x, hx => by
    rcases List.mem_cons.mp hx with hx | hx
    · subst hx; exact ⟨nk_is I fh q e1 rfl, e2⟩
    · exact dn_keys I fh l x hx
theorem dn_of {pins : List (Addr × Obj)} {σ : St} {H F : Hp} {s : Shared} {a : Addr} {xs : List (NestedKey × Addr × Value)} {ps : List (D × D)} (I : Inv X pins σ H s) (fh : Same F H) (e : H a = some (DnO X.w a xs)) (l : DatN X.kw X.mg F xs ps) : (a == sysModules) = false ∧ s.heap.DictOfH (nestedKind X.prog X.w) a xs := by
  obtain ⟨⟨h0, nd, o, es, ep, h1, h2, h3, h4⟩, _, _⟩ := (show ObjOk X.prog X.w H s.heap a (DnO X.w a xs) from I.hok _ _ e)
  exact ⟨h0, o, es, ep, h1, h2, h3, h4, dn_keys I fh l, nd⟩
theorem find_N {K : KW} {mg : Str → Option Value} {F : Hp} {x : D} {j : NestedKey} (h : D.nk x = some j) : ∀ {xs : List (NestedKey × Addr × Value)} {ps : List (D × D)}, DatN K mg F xs ps →
    (atKey xs j = none ∧ D.findN x ps = none) ∨ ∃ p v d, atKey xs j = some p ∧ D.findN x ps = some d ∧ RelV v p.2 ∧ Dat K mg F v d
  | _, _, .nil => .inl ⟨rfl, rfl⟩
  | _, _, .cons (k := k) (b := b) (u := u) (v := v) (d := d) e1 _ _ r q l => by
    unfold D.findN atKey
    rw [e1, h, List.find?_cons]
    by_cases e : k = j
    · subst e
      rw [if_pos rfl, decide_eq_true rfl]
      exact .inr ⟨(b, u), v, d, rfl, rfl, r, q⟩
    · rw [if_neg (fun z => e (Option.some.inj z)), decide_eq_false e]
      exact find_N h l
theorem key_N {pins : List (Addr × Obj)} {σ : St} {H F : Hp} {s : Shared} {v : V} {u : Value} {x : D} {j : NestedKey} (I : Inv X pins σ H s) (fh : Same F H) (b : DatB X.kw X.mg F H v x) (ok : x.nkOk = true) (h : D.nk x = some j) (r : RelV v u) : ∃ c, v = .ref c ∧ u = .ref c ∧ Dat X.kw X.mg F (.ref c) x ∧ (nestedKind X.prog X.w).is s.heap j c := by
  obtain ⟨ds, k, rfl, e, hd⟩ := nkOk_some ok
  rw [h] at e; cases e
  have q : Dat X.kw X.mg F v (.tup ds) := by
    rcases b with b | ⟨a, _, _, o⟩
    · exact b
    · exact False.elim o
  cases q with
  | tup e l =>
    cases (show u = Value.ref _ from r)
    exact ⟨_, rfl, rfl, .tup e l, nk_is I fh (.tup e l) h rfl, hd⟩
theorem op_inDT (hu : X.A.units + 65 < cLine) : OpR X (compareOp .In) (fun x y H Q => ∃ d ds, Dp X.K H x d ∧ Dp X.K H y (.tuple ds) ∧ SeqAt.shaped d = true ∧ SeqAt.shaped (.tuple ds) = true ∧ Q (.bl (ds.any fun z => PyData.eqv z d)) H) := by
  intro pins s σ H x y v u Q I rx ry h
  obtain ⟨d, ds, hd, he, sd, se, q⟩ := h
  obtain ⟨as, r1⟩ := Dp.reads I d x v hd rx
  obtain ⟨bs, r2⟩ := Dp.reads I (.tuple ds) y u he ry
  exact SeqAt.in_tuple_reads r2 r1 (SeqAt.canLay_of_shaped se) (SeqAt.canLay_of_shaped sd) (room_in_shaped sd hu) ⟨.bl _, H, I, rfl, q⟩
theorem op_notInDT (hu : X.A.units + 65 < cLine) : OpR X (compareOp .NotIn) (fun x y H Q => ∃ d ds, Dp X.K H x d ∧ Dp X.K H y (.tuple ds) ∧ SeqAt.shaped d = true ∧ SeqAt.shaped (.tuple ds) = true ∧ Q (.bl (!ds.any fun z => PyData.eqv z d)) H) := by
  intro pins s σ H x y v u Q I rx ry h
  obtain ⟨d, ds, hd, he, sd, se, q⟩ := h
  obtain ⟨as, r1⟩ := Dp.reads I d x v hd rx
  obtain ⟨bs, r2⟩ := Dp.reads I (.tuple ds) y u he ry
  exact SeqAt.notIn_tuple_reads r2 r1 (SeqAt.canLay_of_shaped se) (SeqAt.canLay_of_shaped sd) (room_in_shaped sd hu) ⟨.bl _, H, I, rfl, q⟩
theorem opm_in (hu : X.A.units + 65 < cLine) : OpM X (compareOp .In) D.isIn := by
  intro pins s σ H x y v u Q I rx ry h
  obtain ⟨F, dx, dy, d, fh, hx, hy, e, k⟩ := h
  unfold D.isIn at e
  split at e
  · split at e
    · rename_i hc
      cases e
      obtain ⟨c1, c2⟩ := Bool.and_eq_true_iff.mp hc
      refine op_inD hu pins s σ H _ _ v u Q I rx ry ⟨_, _, hx.dp fh (SeqAt.canLay_of_shaped c1), hy.dp fh (SeqAt.canLay_of_shaped c2), c1, c2, ?_⟩
      rw [eqvb_pys]
      exact k F H _ (Ext.refl fh) (.bl _)
    · cases e
  · split at e
    · rename_i hc
      cases e
      rcases Bool.or_eq_true_iff.mp hc with hf | hf
      case inr =>
        obtain ⟨c1, c2⟩ := Bool.and_eq_true_iff.mp hf
        refine op_inDT hu pins s σ H _ _ v u Q I rx ry ⟨_, _, hx.dp fh (SeqAt.canLay_of_shaped c1), hy.dp fh (SeqAt.canLay_of_shaped c2), c1, c2, ?_⟩
        rw [eqvb_pys]
        exact k F H _ (Ext.refl fh) (.bl _)
      obtain ⟨c1, c2⟩ := Bool.and_eq_true_iff.mp hf
      obtain ⟨b, ys, rfl, _, h2, l2⟩ := hy.tup fh
      refine op_in_seq pins s σ H _ _ v u Q I rx ry ⟨b, ys, rfl, .inr (SqT.of h2), flat_V hx c1, flat_Vs l2 c2, ?_⟩
      rw [if_neg Bool.false_ne_true, inb_V hx c1 l2 c2]
      exact k F H _ (Ext.refl fh) (.bl _)
    · cases e
  · split at e
    · split at e
      · rename_i z _ c _ n hn
        cases e
        have ec : c = ⟨#[n]⟩ := Str.ext' (Array.toList_inj.mp hn)
        subst ec
        exact op_in_sign pins s σ H _ _ v u Q I rx ry ⟨n, z, hx.str, hy.str, k F H _ (Ext.refl fh) (.bl _)⟩
      · cases e
    · cases e
  · split at e
    · rename_i hc
      cases e
      obtain ⟨a, rfl, h⟩ := hy.get fh hx hc
      cases ry
      rcases h with ⟨g, e⟩ | ⟨z, d, g, e, _⟩
      · rw [e] at k
        exact d_in (by omega) I g rx fun s' I' => ⟨.bl false, H, I', rfl, k F H _ (Ext.refl fh) (.bl _)⟩
      · rw [e] at k
        exact d_in (by omega) I g rx fun s' I' => ⟨.bl true, H, I', rfl, k F H _ (Ext.refl fh) (.bl _)⟩
    · cases e
  · split at e
    · rename_i hc
      cases e
      obtain ⟨a, xs, rfl, ha, l⟩ := hy.dcn fh
      obtain ⟨_, j, _, hj, _⟩ := nkOk_some hc
      obtain ⟨c, rfl, rfl, _, hk⟩ := key_N I fh hx hc hj rx
      cases ry
      obtain ⟨h0, dd⟩ := dn_of I fh ha l
      refine wpAny_in_heap (by show X.A.in1.units + 8 < cLine; rw [Around.in1_units]; omega) hk h0 dd ?_
      rcases find_N hj l with ⟨e1, e2⟩ | ⟨p, v, d, e1, e2, _⟩
      · rw [e1]; rw [e2] at k
        exact ⟨.bl false, H, I.tok _, rfl, k F H _ (Ext.refl fh) (.bl _)⟩
      · rw [e1]; rw [e2] at k
        exact ⟨.bl true, H, I.tok _, rfl, k F H _ (Ext.refl fh) (.bl _)⟩
    · cases e
  · cases e
theorem opm_notIn (hu : X.A.units + 65 < cLine) : OpM X (compareOp .NotIn) D.notIn := by
  intro pins s σ H x y v u Q I rx ry h
  obtain ⟨F, dx, dy, d, fh, hx, hy, e, k⟩ := h
  unfold D.notIn at e
  split at e
  · rename_i b e'
    cases e
    unfold D.isIn at e'
    split at e'
    · split at e'
      · rename_i hc
        cases e'
        obtain ⟨c1, c2⟩ := Bool.and_eq_true_iff.mp hc
        refine op_notInD hu pins s σ H _ _ v u Q I rx ry ⟨_, _, hx.dp fh (SeqAt.canLay_of_shaped c1), hy.dp fh (SeqAt.canLay_of_shaped c2), c1, c2, ?_⟩
        rw [eqvb_pys]
        exact k F H _ (Ext.refl fh) (.bl _)
      · cases e'
    · split at e'
      · rename_i hc
        cases e'
        rcases Bool.or_eq_true_iff.mp hc with hf | hf
        case inr =>
          obtain ⟨c1, c2⟩ := Bool.and_eq_true_iff.mp hf
          refine op_notInDT hu pins s σ H _ _ v u Q I rx ry ⟨_, _, hx.dp fh (SeqAt.canLay_of_shaped c1), hy.dp fh (SeqAt.canLay_of_shaped c2), c1, c2, ?_⟩
          rw [eqvb_pys]
          exact k F H _ (Ext.refl fh) (.bl _)
        obtain ⟨c1, c2⟩ := Bool.and_eq_true_iff.mp hf
        obtain ⟨b, ys, rfl, _, h2, l2⟩ := hy.tup fh
        refine op_notIn_seq pins s σ H _ _ v u Q I rx ry ⟨b, ys, rfl, .inr (SqT.of h2), flat_V hx c1, flat_Vs l2 c2, ?_⟩
        rw [if_pos rfl, inb_V hx c1 l2 c2]
        exact k F H _ (Ext.refl fh) (.bl _)
      · cases e'
    · split at e'
      · split at e'
        · rename_i z _ c _ n hn
          cases e'
          have ec : c = ⟨#[n]⟩ := Str.ext' (Array.toList_inj.mp hn)
          subst ec
          exact op_notIn_sign pins s σ H _ _ v u Q I rx ry ⟨n, z, hx.str, hy.str, k F H _ (Ext.refl fh) (.bl _)⟩
        · cases e'
      · cases e'
    · split at e'
      · rename_i hc
        cases e'
        obtain ⟨a, rfl, h⟩ := hy.get fh hx hc
        cases ry
        rcases h with ⟨g, e⟩ | ⟨z, d, g, e, _⟩
        · rw [e] at k
          exact d_notIn (by omega) I g rx fun s' I' => ⟨.bl true, H, I', rfl, k F H _ (Ext.refl fh) (.bl _)⟩
        · rw [e] at k
          exact d_notIn (by omega) I g rx fun s' I' => ⟨.bl false, H, I', rfl, k F H _ (Ext.refl fh) (.bl _)⟩
      · cases e'
    · split at e'
      · rename_i hc
        cases e'
        obtain ⟨a, xs, rfl, ha, l⟩ := hy.dcn fh
        obtain ⟨_, j, _, hj, _⟩ := nkOk_some hc
        obtain ⟨c, rfl, rfl, _, hk⟩ := key_N I fh hx hc hj rx
        cases ry
        obtain ⟨h0, dd⟩ := dn_of I fh ha l
        refine wpAny_notIn_heap (by show X.A.in1.units + 8 < cLine; rw [Around.in1_units]; omega) hk h0 dd ?_
        rcases find_N hj l with ⟨e1, e2⟩ | ⟨p, v, d, e1, e2, _⟩
        · rw [e1]; rw [e2] at k
          exact ⟨.bl true, H, I.tok _, rfl, k F H _ (Ext.refl fh) (.bl _)⟩
        · rw [e1]; rw [e2] at k
          exact ⟨.bl false, H, I.tok _, rfl, k F H _ (Ext.refl fh) (.bl _)⟩
      · cases e'
    · cases e'
  · cases e

/-! ### places, slices, lengths, truth -/
def D.idx (x y : D) : Option D := match x, y with
  | .lst ds, .int i => atI ds i
  | .tup ds, .int i => atI ds i
  | .scr ns, .int i => (atI ns i).map D.int
  | .str z, .int i => if z.length ≤ lim then (atI z.cps.toList i).map fun c => .str ⟨#[c]⟩ else none
  | .dct t ps, k => if D.keyOk t k then D.find k ps else none
  | .dcn ps, k => if D.nkOk k then D.findN k ps else none
  | _, _ => none
theorem atI_dat {K : KW} {mg : Str → Option Value} {F : Hp} {xs : List V} {ds : List D} {i : Int} {d : D} (l : DatL K mg F xs ds) (h : atI ds i = some d) : ∃ v, atI xs i = some v ∧ Dat K mg F v d := by
  unfold atI at h ⊢
  rw [l.len]
  cases e : ixN ds.length i with
  | none => rw [e] at h; cases h
  | some j =>
    rw [e] at h
    exact l.getD h
theorem ixm_any (hu : X.A.units + 65 < cLine) : IxR X (rM X.kw X.mg D.idx) := by
  intro value slice pins s σ H x y v u Q I rx ry h hs
  obtain ⟨F, dx, dy, d, fh, hx, hy, e, k⟩ := h
  unfold D.idx at e
  split at e
  · obtain ⟨a, xs, rfl, h1, l1⟩ := hx.lst fh
    obtain ⟨w, h2, h3⟩ := atI_dat l1 e
    exact ix_list value slice pins s σ H _ _ v u Q I rx ry ⟨a, xs, _, w, rfl, hy.int, SqL.of h1, h2, k F H _ (Ext.refl fh) h3⟩ hs
  · obtain ⟨a, xs, rfl, _, h1, l1⟩ := hx.tup fh
    obtain ⟨w, h2, h3⟩ := atI_dat l1 e
    exact ix_tup value slice pins s σ H _ _ v u Q I rx ry ⟨a, xs, _, w, rfl, hy.int, SqT.of h1, h2, k F H _ (Ext.refl fh) h3⟩ hs
  · rename_i ns i
    obtain ⟨a, rfl, h1⟩ := hx.scr fh
    cases q : atI ns i with
    | none => rw [q] at e; cases e
    | some n =>
      rw [q] at e; cases e
      have q' : atI (ns.map V.int) i = some (V.int n) := by
        unfold atI at q ⊢
        rw [List.length_map]
        cases z : ixN ns.length i with
        | none => rw [z] at q; cases q
        | some j =>
          rw [z] at q
          have q2 : ns[j]? = some n := q
          show (ns.map V.int)[j]? = _
          rw [List.getElem?_map, q2]
          rfl
      exact ix_list value slice pins s σ H _ _ v u Q I rx ry ⟨a, _, _, _, rfl, hy.int, h1, q', k F H _ (Ext.refl fh) (.int _)⟩ hs
  · split at e
    · rename_i z i hl
      cases q : atI z.cps.toList i with
      | none => rw [q] at e; cases e
      | some n =>
        rw [q] at e; cases e
        exact ix_str value slice pins s σ H _ _ v u Q I rx ry ⟨z, _, n, hx.str, hy.int, lim_line hl, q, k F H _ (Ext.refl fh) (.str _)⟩ hs
    · cases e
  · split at e
    · rename_i hc
      obtain ⟨a, rfl, h⟩ := hx.get fh hy hc
      cases rx
      rcases h with ⟨g, e'⟩ | ⟨z, d', g, e', hz⟩
      · rw [e'] at e; cases e
      · rw [e'] at e; cases e
        exact tail_any (dict_typeIs I g) PySem.F.slot_dict_getitem.lookup (d_getItem (by omega) I g ry fun w' s3 I3 rw' => ⟨z, H, I3, rw', k F H _ (Ext.refl fh) hz⟩) hs
    · cases e
  · split at e
    · rename_i hc
      obtain ⟨a, xs, rfl, ha, l⟩ := hx.dcn fh
      obtain ⟨_, j, _, hj, _⟩ := nkOk_some hc
      obtain ⟨c, rfl, rfl, _, hk⟩ := key_N I fh hy hc hj ry
      cases rx
      obtain ⟨h0, dd⟩ := dn_of I fh ha l
      rcases find_N hj l with ⟨e1, e2⟩ | ⟨p, z, d', e1, e2, rz, hz⟩
      · rw [e2] at e; cases e
      · rw [e2] at e; cases e
        exact tail_any dd.typeIs PySem.F.slot_dict_getitem.lookup (wpAny_getItem_heap (by show X.A.in1.units + 8 < cLine; rw [Around.in1_units]; omega) hk dd e1 ⟨z, H, I.tok _, rz, k F H _ (Ext.refl fh) hz⟩) hs
    · cases e
  · cases e
/-- x[lo:hi] -/
def cutD (ds : List D) (lo hi : Option Int) : List D := (ds.drop (HT.sIx ds.length 0 lo)).take (HT.sIx ds.length ds.length hi - HT.sIx ds.length 0 lo)
def D.slice (x : D) (lo hi : Option Int) : Option D := match x with
  | .lst ds => some (.lst (cutD ds lo hi))
  | .tup ds => some (.tup (cutD ds lo hi))
  | .str z => if z.length ≤ lim then some (.str (cutS z lo hi)) else none
  | _ => none
theorem cut_dat {K : KW} {mg : Str → Option Value} {F : Hp} {xs : List V} {ds : List D} (l : DatL K mg F xs ds) (lo hi : Option Int) : DatL K mg F (cutV xs lo hi) (cutD ds lo hi) := by
  unfold cutV cutD
  rw [l.len]
  exact (l.drop _).take _
def rSlM (K : KW) (mg : Str → Option Value) : V → Option Int → Option Int → Hp → VK → Prop := fun x lo hi H Q => ∃ F dx d, Same F H ∧ DatB K mg F H x dx ∧ D.slice dx lo hi = some d ∧ ∀ F' H' v, Ext F H F' H' → Dat K mg F' v d → Q v H'
theorem cutD_whole {ds : List D} {lo hi : Option Int} (h : HT.sIx ds.length 0 lo = 0 ∧ HT.sIx ds.length ds.length hi = ds.length) : cutD ds lo hi = ds := by
  unfold cutD
  rw [h.1, h.2]
  simp
theorem slm_any : SlR X (rSlM X.kw X.mg) := by
  intro pins s σ H x v vl vu lo hi sl Q I rx hs pl pu h
  obtain ⟨F, dx, d, fh, hx, e, k⟩ := h
  unfold D.slice at e
  split at e
  · cases e
    obtain ⟨a, xs, rfl, h1, l1⟩ := hx.lst fh
    exact sl_list pins s σ H _ v vl vu lo hi sl Q I rx hs pl pu ⟨a, xs, rfl, SqL.of h1, lst_new fh (cut_dat l1 lo hi) k⟩
  · cases e
    obtain ⟨a, xs, rfl, f1, h1, l1⟩ := hx.tup fh
    refine sl_tupA pins s σ H _ v vl vu lo hi sl Q I rx hs pl pu ⟨a, xs, rfl, SqT.of h1, fun z => ?_, fun _ => tup_new fh (cut_dat l1 lo hi) k⟩
    rw [l1.len] at z
    exact k F H _ (Ext.refl fh) (by rw [cutD_whole z]; exact .tup f1 l1)
  · split at e
    · rename_i hl
      cases e
      exact sl_str pins s σ H _ v vl vu lo hi sl Q I rx hs pl pu ⟨_, hx.str, lim_line hl, k F H _ (Ext.refl fh) (.str _)⟩
    · cases e
  · cases e
def D.len (x : D) : Option D := match x with
  | .lst ds => some (.int ds.length)
  | .tup ds => some (.int ds.length)
  | .scr ns => some (.int ns.length)
  | .str z => if z.length ≤ lim then some (.int z.length) else none
  | .dct false ps => some (.int ps.length)
  | .dcn ps => if ps.length ≤ lim then some (.int ps.length) else none
  | _ => none
def D.truth (x : D) : Option Bool := match x with
  | .non => some false
  | .bl b => some b
  | .int i => some (i != 0)
  | .str z => if z.length ≤ lim then some ((z.length : Int) != 0) else none
  | .lst ds => some (!ds.isEmpty)
  | .tup ds => some (!ds.isEmpty)
  | _ => none
theorem DatL.isEmpty {K : KW} {mg : Str → Option Value} {F : Hp} {xs : List V} {ds : List D} (l : DatL K mg F xs ds) : xs.isEmpty = ds.isEmpty := by cases l <;> rfl
theorem DatB.truth {K : KW} {mg : Str → Option Value} {F H : Hp} {v : V} {d : D} {b : Bool} (fh : Same F H) (h : DatB K mg F H v d) (e : D.truth d = some b) : TruV K v H b := by
  cases d with
  | non => cases e; rw [h.non]; rfl
  | bl x => cases e; rw [h.bl]; rfl
  | int x => cases e; rw [h.int]; rfl
  | str z =>
    have e' : (if z.length ≤ lim then some ((z.length : Int) != 0) else none) = some b := e
    rw [h.str]
    by_cases hl : z.length ≤ lim
    · rw [if_pos hl] at e'
      cases e'
      exact ⟨lim_line hl, rfl⟩
    · rw [if_neg hl] at e'
      cases e'
  | lst ds =>
    cases e
    obtain ⟨a, xs, rfl, h1, l1⟩ := h.lst fh
    exact .inl ⟨xs, SqL.of h1, by rw [l1.isEmpty]⟩
  | tup ds =>
    cases e
    obtain ⟨a, xs, rfl, _, h1, l1⟩ := h.tup fh
    exact .inr (.inl ⟨xs, SqT.of h1, by rw [l1.isEmpty]⟩)
  | _ => cases e
end
end L2.Pv

set_option Elab.async false
set_option linter.all false
set_option maxRecDepth 100000
set_option maxHeartbeats 4000000
set_option autoImplicit false
/-! Expressions as functions of the slots' data. -/
namespace L2.Pv
open PySem PySem.Spec PyProof.Rows

abbrev EM := Env → R D
abbrev TM := Env → R Bool
abbrev AM := Env → R (List D)
/-- a computation's end: k of its value, W of its exception -/
def Got (mg : Str → Option Value) (W : WX) (F H : Hp) (σ : St) {α : Type} (r : R α) (k : α → Prop) : Prop := match r with
  | .ok a => k a
  | .ex c => ∀ F' H' C, Ext F H F' H' → mg c = some (Value.ref C) → W (.ref C) none σ H'
  | .no => False
section
variable {mg : Str → Option Value} {W : WX} {F H F1 H1 : Hp} {σ : St} {α β : Type} {r : R α} {f : α → R β} {k : α → Prop} {k' : β → Prop}
theorem Got.bind (h : Got mg W F H σ (r.bind f) k') : Got mg W F H σ r fun a => Got mg W F H σ (f a) k' := by
  cases r with
  | ok a => exact h
  | ex c => exact h
  | no => exact h
theorem Got.imp {k2 : α → Prop} (h : Got mg W F H σ r k) (i : ∀ a, k a → k2 a) : Got mg W F H σ r k2 := by
  cases r with
  | ok a => exact i a h
  | ex c => exact h
  | no => exact h
theorem Got.move (h : Got mg W F H σ r k) (x : Ext F H F1 H1) : Got mg W F1 H1 σ r k := by
  cases r with
  | ok a => exact h
  | ex c => exact fun F' H' C y => h F' H' C (x.trans y)
  | no => exact h
end
/-- an Option as a computation -/
def R.of {α : Type} (o : Option α) : R α := match o with
  | some a => .ok a
  | none => .no
@[simp] theorem R.of_some {α : Type} (a : α) : R.of (some a) = .ok a := nr rfl
@[simp] theorem R.of_none {α : Type} : R.of (none : Option α) = .no := nr rfl
theorem Got.of {mg : Str → Option Value} {W : WX} {F H : Hp} {σ : St} {α : Type} {o : Option α} {k : α → Prop} (h : Got mg W F H σ (R.of o) k) : ∃ a, o = some a ∧ k a := by
  cases o with
  | some a => exact ⟨a, rfl, h⟩
  | none => exact False.elim h

section
variable (K : KW) (mg : Str → Option Value)
inductive DatBL (F H : Hp) : List V → List D → Prop
  | nil : DatBL F H [] []
  | cons {v : V} {vs : List V} {d : D} {ds : List D} : DatB K mg F H v d → DatBL F H vs ds → DatBL F H (v :: vs) (d :: ds)
variable (F0 H0 : Hp) (W : WX)
/-- the readings -/
def tE (m : EM) : TE := fun σ H Q => ∃ F ρ, Rel K mg F0 H0 F σ H ρ ∧ Got mg W F H σ (m ρ) fun d => ∀ F' H' v, Ext F H F' H' → Dat K mg F' v d → Q v H'
def tEb (m : EM) : TE := fun σ H Q => ∃ F ρ, Rel K mg F0 H0 F σ H ρ ∧ Got mg W F H σ (m ρ) fun d => ∀ F' H' v, Ext F H F' H' → DatB K mg F' H' v d → Q v H'
def tEf (m : EM) : TE := fun σ H Q => ∃ F ρ, Rel K mg F0 H0 F σ H ρ ∧ Got mg W F H σ (m ρ) fun d => ∀ F' H' a, Ext F H F' H' → F' a = none → H a = none → OwnAt K mg F' H' a d → Q (.ref a) H'
def tTm (m : TM) : TT := fun σ H Q => ∃ F ρ, Rel K mg F0 H0 F σ H ρ ∧ Got mg W F H σ (m ρ) fun b => ∀ F' H', Ext F H F' H' → Q b H'
def tAm (m : AM) : TA := fun σ H Q => ∃ F ρ, Rel K mg F0 H0 F σ H ρ ∧ Got mg W F H σ (m ρ) fun ds => ∀ F' H' vs, Ext F H F' H' → DatL K mg F' vs ds → Q vs H'
def tAb (m : AM) : TA := fun σ H Q => ∃ F ρ, Rel K mg F0 H0 F σ H ρ ∧ Got mg W F H σ (m ρ) fun ds => ∀ F' H' vs, Ext F H F' H' → DatBL K mg F' H' vs ds → Q vs H'
end
def PEm (X : Cx) (F0 H0 : Hp) (W : WX) (e : Expr) (m : EM) : Prop := PE X e (tE X.kw X.mg F0 H0 W m)
def PBm (X : Cx) (F0 H0 : Hp) (W : WX) (e : Expr) (m : EM) : Prop := PE X e (tEb X.kw X.mg F0 H0 W m)
def PFm (X : Cx) (F0 H0 : Hp) (W : WX) (e : Expr) (m : EM) : Prop := PE X e (tEf X.kw X.mg F0 H0 W m)
def PTm (X : Cx) (F0 H0 : Hp) (W : WX) (e : Expr) (m : TM) : Prop := PT X e (tTm X.kw X.mg F0 H0 W m)
def PWm (X : Cx) (F0 H0 : Hp) (W : WX) (e : Expr) (m : TM) : Prop := PW X e (tTm X.kw X.mg F0 H0 W m)
/-- one after the other -/
def aAll : List EM → AM
  | [] => fun _ => .ok []
  | m :: ms => fun ρ => (m ρ).bind fun d => (aAll ms ρ).bind fun ds => .ok (d :: ds)
theorem aAll_len : ∀ {ms : List EM} {ρ : Env} {ds : List D}, aAll ms ρ = .ok ds → ds.length = ms.length
  | [], _, _, h => by cases h; rfl
  | m :: ms, ρ, ds, h => by
    unfold aAll at h
    cases e : m ρ with
    | ok d =>
      rw [e] at h
      cases e2 : aAll ms ρ with
      | ok es =>
        rw [e2] at h
        cases h
        show es.length + 1 = ms.length + 1
        rw [aAll_len e2]
      | ex c => rw [e2] at h; cases h
      | no => rw [e2] at h; cases h
    | ex c => rw [e] at h; cases h
    | no => rw [e] at h; cases h
def PAm (X : Cx) (F0 H0 : Hp) (W : WX) (es : List Expr) (ms : List EM) : Prop := PA X es (tAm X.kw X.mg F0 H0 W (aAll ms))
def PAb (X : Cx) (F0 H0 : Hp) (W : WX) (es : List Expr) (ms : List EM) : Prop := PA X es (tAb X.kw X.mg F0 H0 W (aAll ms))

section
variable {X : Cx} {F0 H0 : Hp} {W : WX} {e a b c : Expr} {m ma mb : EM} {es : List Expr} {ms : List EM} {pos : Pos}
theorem PE.imp {t t' : TE} (h : PE X e t) (f : ∀ σ H Q, t' σ H Q → t σ H Q) : PE X e t' := ⟨fun pins s σ H Q I q => h.run pins s σ H Q I (f σ H Q q)⟩
theorem PT.imp {t t' : TT} (h : PT X e t) (f : ∀ σ H Q, t' σ H Q → t σ H Q) : PT X e t' := ⟨fun pins s σ H Q I q => h.run pins s σ H Q I (f σ H Q q)⟩
theorem PW.imp {t t' : TT} (h : PW X e t) (f : ∀ σ H Q, t' σ H Q → t σ H Q) : PW X e t' := ⟨fun wh pins s σ H Q I q => h.run wh pins s σ H Q I (f σ H Q q)⟩
theorem PA.imp {t t' : TA} (h : PA X es t) (f : ∀ σ H Q, t' σ H Q → t σ H Q) : PA X es t' := ⟨fun pos pins s σ H Q I q => h.run pos pins s σ H Q I (f σ H Q q)⟩
theorem PEm.bo (h : PEm X F0 H0 W e m) : PBm X F0 H0 W e m := PE.imp h fun σ H Q ⟨F, ρ, r, g⟩ => ⟨F, ρ, r, g.imp fun d k F' H' v x q => k F' H' v x (.inl q)⟩
theorem PFm.bo (h : PFm X F0 H0 W e m) : PBm X F0 H0 W e m := PE.imp h fun σ H Q ⟨F, ρ, r, g⟩ => ⟨F, ρ, r, g.imp fun d k F' H' a x n n0 o => k F' H' _ x (.inr ⟨a, rfl, n, o⟩)⟩
theorem PFm.em (h : PFm X F0 H0 W e m) : PEm X F0 H0 W e m := by
  refine ⟨fun pins s σ H Q I ⟨F, ρ, r, g⟩ => ?_⟩
  refine thn (h.run pins s σ H (fun v H' => ∃ F' a d, v = .ref a ∧ Ext F H F' H' ∧ F' a = none ∧ H a = none ∧ OwnAt X.kw X.mg F' H' a d ∧ ∀ F' H' v, Ext F H F' H' → Dat X.kw X.mg F' v d → Q v H') I ⟨F, ρ, r, g.imp fun d k F' H' a x n n0 o => ⟨F', a, d, rfl, x, n, n0, o, k⟩⟩) fun v s1 ⟨y, H1, I1, r1, F1, a, d, e, x, n, n0, o, k⟩ => ?_
  subst e
  obtain ⟨u, hu, mu⟩ := o.some
  obtain ⟨ob, I2⟩ := Inv.frozen I1 hu mu
  refine ⟨.ref a, _, I2, r1, k (upd F1 a (frzTo ob u)) _ _ ⟨x.ff.trans (same_upd n), same_upd2 x.fh, fun c w hc => ?_, fun c w hc hn => ?_⟩ (o.dat ob n hu)⟩
  · rw [upd_ne (ne_of_none hc n0)]; exact x.hh c w hc
  · by_cases q : c = a
    · subst q; exact .inl n0
    · rw [upd_ne q] at hc; exact x.nw c w hc hn

/-! ### names and constants -/
def eK (d : D) : EM := fun _ => .ok d
def slAt : Env → Nat → Option Sl
  | [], _ => none
  | s :: _, 0 => s
  | _ :: r, n + 1 => slAt r n
theorem slAt_some : ∀ {ρ : Env} {i : Nat} {s : Sl}, slAt ρ i = some s → ρ[i]? = some (some s)
  | s :: _, 0, _, h => by rw [show slAt (s :: _) 0 = s from rfl] at h; rw [h]; rfl
  | _ :: r, n + 1, _, h => slAt_some (ρ := r) (i := n) h
def eV (i : Nat) : EM := fun ρ => match slAt ρ i with
  | some (.val d) => .ok d
  | _ => .no
def eB (i : Nat) : EM := fun ρ => match slAt ρ i with
  | some (.val d) => .ok d
  | some (.own d) => .ok d
  | _ => .no
theorem em_int {i : Int} {j : Nat} : PEm X F0 H0 W (.Constant (.int i) j pos) (eK (.int i)) := PE.imp pe_int fun σ H Q ⟨F, ρ, r, g⟩ => g F H _ (Ext.refl r.fh) (.int i)
theorem em_bl {i : Bool} {j : Nat} : PEm X F0 H0 W (.Constant (.bool i) j pos) (eK (.bl i)) := PE.imp pe_bl fun σ H Q ⟨F, ρ, r, g⟩ => g F H _ (Ext.refl r.fh) (.bl i)
theorem em_non {j : Nat} : PEm X F0 H0 W (.Constant .none j pos) (eK .non) := PE.imp pe_non fun σ H Q ⟨F, ρ, r, g⟩ => g F H _ (Ext.refl r.fh) .non
theorem em_str {x : Str} {j : Nat} : PEm X F0 H0 W (.Constant (.str x) j pos) (eK (.str x)) := PE.imp pe_str fun σ H Q ⟨F, ρ, r, g⟩ => g F H _ (Ext.refl r.fh) (.str x)
/-- a module's constant: an int or a text -/
theorem em_glob {x : Str} {v : V} {d : D} (hg : Gl X x) (hm : ∃ u, X.mg x = some u ∧ RelV v u) (hd : Dat X.kw X.mg (fun _ => none) v d) (hdb : (x == ("__debug__" : Str)) = false := by decide) : PEm X F0 H0 W (.Name x pos) (eK d) := by
  obtain ⟨u, h1, h2⟩ := hm
  exact PE.imp (pe_glob hg h1 h2 hdb) fun σ H Q ⟨F, ρ, r, g⟩ => g F H _ (Ext.refl r.fh) (hd.mono fun _ _ z => by cases z)
theorem em_v (i : Nat) {x : Str} {pos : Pos} (hN : X.N[i]? = some x := by rfl) (hv : Vis X.env.scope x := by first | exact Or.inl rfl | exact Or.inr (Or.inl rfl) | exact Or.inr (Or.inr rfl)) (hd : (x == ("__debug__" : Str)) = false := by decide)
    (hcd : (x == ("__classdict__" : Str)) = false := by decide) : PEm X F0 H0 W (.Name x pos) (eV i) := PE.imp (pe_var hN hv hd hcd) fun σ H Q ⟨F, ρ, r, g⟩ => by
  unfold eV at g
  split at g
  · rename_i d h
    obtain ⟨v, hv, k⟩ := r.sl i _ (slAt_some h)
    exact ⟨v, hv, g F H v (Ext.refl r.fh) k⟩
  · exact False.elim g
theorem bm_v (i : Nat) {x : Str} {pos : Pos} (hN : X.N[i]? = some x := by rfl) (hv : Vis X.env.scope x := by first | exact Or.inl rfl | exact Or.inr (Or.inl rfl) | exact Or.inr (Or.inr rfl)) (hd : (x == ("__debug__" : Str)) = false := by decide)
    (hcd : (x == ("__classdict__" : Str)) = false := by decide) : PBm X F0 H0 W (.Name x pos) (eB i) := PE.imp (pe_var hN hv hd hcd) fun σ H Q ⟨F, ρ, r, g⟩ => by
  unfold eB at g
  split at g
  · rename_i d h
    obtain ⟨v, hv, k⟩ := r.sl i _ (slAt_some h)
    exact ⟨v, hv, g F H v (Ext.refl r.fh) (.inl k)⟩
  · rename_i d h
    obtain ⟨v, hv, k⟩ := r.sl i _ (slAt_some h)
    exact ⟨v, hv, g F H v (Ext.refl r.fh) (.inr k)⟩
  · exact False.elim g

/-! ### operators -/
def eOp (g : D → D → Option D) (ma mb : EM) : EM := fun ρ => (ma ρ).bind fun x => (mb ρ).bind fun y => R.of (g x y)
/-- two operands, read -/
theorem two {t : TE} {g : D → D → Option D} (h : t = tOp (rM X.kw X.mg g) (tEb X.kw X.mg F0 H0 W ma) (tEb X.kw X.mg F0 H0 W mb)) : ∀ σ H Q, tE X.kw X.mg F0 H0 W (eOp g ma mb) σ H Q → t σ H Q := by
  subst h
  rintro σ H Q ⟨F, ρ, r, h⟩
  refine ⟨F, ρ, r, h.bind.imp fun x h1 F1 H1 v x1 d1 => ?_⟩
  refine ⟨F1, ρ, r.ext x1, (h1.move x1).bind.imp fun y h2 F2 H2 w x2 d2 => ?_⟩
  obtain ⟨d, e, k⟩ := h2.of
  exact ⟨F2, x, y, d, x2.fh, d1.ext x2, d2, e, fun F3 H3 z x3 q => k F3 H3 z (x1.trans (x2.trans x3)) q⟩
theorem em_bin {op : Operator} {g : D → D → Option D} (ho : OpM X (binaryOp op) g) (ha : PBm X F0 H0 W a ma) (hb : PBm X F0 H0 W b mb) : PEm X F0 H0 W (.BinOp a op b pos) (eOp g ma mb) := PE.imp (pe_op ho ha hb) (two rfl)
theorem em_cmp {op : CmpOp} {g : D → D → Option D} (ho : OpM X (compareOp op) g) (ha : PBm X F0 H0 W a ma) (hb : PBm X F0 H0 W b mb) (hm : behindInMarks op b = false) : PEm X F0 H0 W (.Compare a [op] [b] pos) (eOp g ma mb) := PE.imp (pe_cmpR ho ha hb hm) (two rfl)
def D.asB : D → R Bool
  | .bl b => .ok b
  | _ => .no
def tOf (m : EM) : TM := fun ρ => (m ρ).bind D.asB
/-- a value that is a bool, as a test -/
theorem test_of {t : TE} (h : ∀ σ H Q, tE X.kw X.mg F0 H0 W m σ H Q → t σ H Q) (tt : TT) (ht : tt = tTest t) : ∀ σ H Q, tTm X.kw X.mg F0 H0 W (tOf m) σ H Q → tt σ H Q := by
  subst ht
  rintro σ H Q ⟨F, ρ, r, g⟩
  refine h σ H _ ⟨F, ρ, r, g.bind.imp fun d k F' H' v x q => ?_⟩
  cases d with
  | bl b => cases q; exact ⟨b, rfl, k F' H' x⟩
  | _ => exact False.elim k
theorem tm_cmp {op : CmpOp} {g : D → D → Option D} (ho : OpM X (compareOp op) g) (ha : PBm X F0 H0 W a ma) (hb : PBm X F0 H0 W b mb) (hm : behindInMarks op b = false) : PTm X F0 H0 W (.Compare a [op] [b] pos) (tOf (eOp g ma mb)) :=
  PT.imp (pt_cmpR ho ha hb hm) (test_of (two rfl) _ rfl)
/-- an expression's truth: a name, a call, a subscript .. -/
def tTru (m : EM) : TM := fun ρ => (m ρ).bind fun d => R.of d.truth
theorem tm_tru (ha : PBm X F0 H0 W a ma) (he : ∀ whole, isTrue a X.env whole = (do let v ← whole; standAt a.pos; holding [v] (truthy v)) := by intro _; rfl) : PTm X F0 H0 W a (tTru ma) := by
  refine PT.imp (pt_truth ha he) fun σ H Q ⟨F, ρ, r, g⟩ => ?_
  refine ⟨F, ρ, r, g.bind.imp fun d k F' H' v x q => ?_⟩
  obtain ⟨b, e, k⟩ := k.of
  exact ⟨b, q.truth x.fh e, k F' H' x⟩
/-- a bool's truth, where it is known to be one -/
theorem tm_val (ha : PEm X F0 H0 W a ma) (he : ∀ whole, isTrue a X.env whole = (do let v ← whole; standAt a.pos; holding [v] (truthy v)) := by intro _; rfl) : PTm X F0 H0 W a (tOf ma) :=
  PT.imp (pt_val ha he) (test_of (fun _ _ _ z => z) _ rfl)
/-- a op b op' c -/
def eChain (g g' : D → D → Option D) (ma mb mc : EM) : EM := fun ρ => (ma ρ).bind fun x => (mb ρ).bind fun y => (R.of (g x y)).bind fun z => match z with
  | .bl true => (mc ρ).bind fun w => R.of (g' y w)
  | .bl false => .ok (.bl false)
  | _ => .no
theorem chain_ok {mc : EM} {g g' : D → D → Option D} : ∀ σ H Q, tE X.kw X.mg F0 H0 W (eChain g g' ma mb mc) σ H Q → tChain (rM X.kw X.mg g) (rM X.kw X.mg g') (tEb X.kw X.mg F0 H0 W ma) (tEb X.kw X.mg F0 H0 W mb) (tEb X.kw X.mg F0 H0 W mc) σ H Q := by
  rintro σ H Q ⟨F, ρ, r, h⟩
  refine ⟨F, ρ, r, h.bind.imp fun x h1 F1 H1 v x1 d1 => ?_⟩
  refine ⟨F1, ρ, r.ext x1, (h1.move x1).bind.imp fun y h2 F2 H2 w x2 d2 => ?_⟩
  obtain ⟨z, e, h3⟩ := h2.bind.of
  refine ⟨F2, x, y, z, x2.fh, d1.ext x2, d2, e, fun F3 H3 u x3 q => ?_⟩
  cases z with
  | bl b =>
    cases q
    refine ⟨b, rfl, ?_⟩
    cases b with
    | false =>
      rw [if_neg Bool.false_ne_true]
      exact h3 F3 H3 _ (x1.trans (x2.trans x3)) (.bl false)
    | true =>
      rw [if_pos rfl]
      refine ⟨F3, ρ, (r.ext x1).ext (x2.trans x3), ((h3 : Got _ _ _ _ _ _ _).move (x2.trans x3)).bind.imp fun t h4 F4 H4 w' x4 d4 => ?_⟩
      obtain ⟨d, e', k⟩ := h4.of
      exact ⟨F4, y, t, d, x4.fh, d2.ext (x3.trans x4), d4, e', fun F5 H5 z5 x5 q5 => k F5 H5 z5 (x1.trans ((x2.trans x3).trans (x4.trans x5))) q5⟩
  | _ => exact False.elim h3
theorem em_chain {op op' : CmpOp} {mc : EM} {g g' : D → D → Option D} (ho : OpM X (compareOp op) g) (ho' : OpM X (compareOp op') g') (ha : PBm X F0 H0 W a ma) (hb : PBm X F0 H0 W b mb) (hc : PBm X F0 H0 W c mc)
    (hm : lastMarks [op, op'] [b, c] = false := by with_unfolding_all rfl) : PEm X F0 H0 W (.Compare a [op, op'] [b, c] pos) (eChain g g' ma mb mc) := PE.imp (pe_chain ho ho' ha hb hc hm) chain_ok
theorem tm_chain {op op' : CmpOp} {mc : EM} {g g' : D → D → Option D} (ho : OpM X (compareOp op) g) (ho' : OpM X (compareOp op') g') (ha : PBm X F0 H0 W a ma) (hb : PBm X F0 H0 W b mb) (hc : PBm X F0 H0 W c mc)
    (hm : lastMarks [op, op'] [b, c] = false := by with_unfolding_all rfl) : PTm X F0 H0 W (.Compare a [op, op'] [b, c] pos) (tOf (eChain g g' ma mb mc)) := PT.imp (pt_chain ho ho' ha hb hc hm) (test_of chain_ok _ rfl)

/-! ### and, or, not, if -/
def tAndM (p q : TM) : TM := fun ρ => (p ρ).bind fun b => if b then q ρ else .ok false
def tOrM (p q : TM) : TM := fun ρ => (p ρ).bind fun b => if b then .ok true else q ρ
def tNotM (p : TM) : TM := fun ρ => (p ρ).bind fun b => .ok (!b)
variable {p q : TM} {rest : List Expr}
theorem wm_and1 (ha : PTm X F0 H0 W a p) : PWm X F0 H0 W (.BoolOp .And [a] pos) p := pw_and1 ha
theorem wm_or1 (ha : PTm X F0 H0 W a p) : PWm X F0 H0 W (.BoolOp .Or [a] pos) p := pw_or1 ha
theorem wm_and (ha : PTm X F0 H0 W a p) (hb : PWm X F0 H0 W (.BoolOp .And (b :: rest) pos) q) : PWm X F0 H0 W (.BoolOp .And (a :: b :: rest) pos) (tAndM p q) := by
  refine PW.imp (pw_and ha hb) fun σ H Q ⟨F, ρ, r, g⟩ => ?_
  refine ⟨F, ρ, r, g.bind.imp fun d k F' H' x => ?_⟩
  cases d with
  | true => rw [if_pos rfl]; exact ⟨F', ρ, r.ext x, (k.move x).imp fun y z F2 H2 x2 => z F2 H2 (x.trans x2)⟩
  | false => rw [if_neg Bool.false_ne_true]; exact k F' H' x
theorem wm_or (ha : PTm X F0 H0 W a p) (hb : PWm X F0 H0 W (.BoolOp .Or (b :: rest) pos) q) : PWm X F0 H0 W (.BoolOp .Or (a :: b :: rest) pos) (tOrM p q) := by
  refine PW.imp (pw_or ha hb) fun σ H Q ⟨F, ρ, r, g⟩ => ?_
  refine ⟨F, ρ, r, g.bind.imp fun d k F' H' x => ?_⟩
  cases d with
  | true => rw [if_pos rfl]; exact k F' H' x
  | false => rw [if_neg Bool.false_ne_true]; exact ⟨F', ρ, r.ext x, (k.move x).imp fun y z F2 H2 x2 => z F2 H2 (x.trans x2)⟩
theorem PWm.t (h : PWm X F0 H0 W e p) : PTm X F0 H0 W e p := PW.pt h
theorem tm_not (ha : PTm X F0 H0 W a p) : PTm X F0 H0 W (.UnaryOp .Not a pos) (tNotM p) := by
  refine PT.imp (pt_not ha) fun σ H Q ⟨F, ρ, r, g⟩ => ?_
  exact ⟨F, ρ, r, g.bind.imp fun d k => k⟩
/-- .. as values -/
def eAnd (ma mb : EM) : EM := fun ρ => (ma ρ).bind fun x => match x with
  | .bl true => mb ρ
  | .bl false => .ok (.bl false)
  | _ => .no
def eOr (ma mb : EM) : EM := fun ρ => (ma ρ).bind fun x => match x with
  | .bl false => mb ρ
  | .bl true => .ok (.bl true)
  | _ => .no
def eNot (ma : EM) : EM := fun ρ => (ma ρ).bind fun x => (R.of x.truth).bind fun b => .ok (.bl (!b))
theorem em_one {op : BoolOp} (h : PEm X F0 H0 W a m) : PEm X F0 H0 W (.BoolOp op [a] pos) m := pe_one h
theorem em_and (ha : PEm X F0 H0 W a ma) (hb : PEm X F0 H0 W (.BoolOp .And (b :: rest) pos) mb) : PEm X F0 H0 W (.BoolOp .And (a :: b :: rest) pos) (eAnd ma mb) := by
  refine PE.imp (pe_and ha hb) fun σ H Q ⟨F, ρ, r, g⟩ => ?_
  refine ⟨F, ρ, r, g.bind.imp fun d k F' H' v x q => ?_⟩
  cases d with
  | bl c =>
    cases q
    refine ⟨c, rfl, ?_⟩
    cases c with
    | true => rw [if_pos rfl]; exact ⟨F', ρ, r.ext x, ((k : Got _ _ _ _ _ _ _).move x).imp fun y z F2 H2 v x2 => z F2 H2 v (x.trans x2)⟩
    | false => rw [if_neg Bool.false_ne_true]; exact k F' H' _ x (.bl false)
  | _ => exact False.elim k
theorem em_or (ha : PEm X F0 H0 W a ma) (hb : PEm X F0 H0 W (.BoolOp .Or (b :: rest) pos) mb) : PEm X F0 H0 W (.BoolOp .Or (a :: b :: rest) pos) (eOr ma mb) := by
  refine PE.imp (pe_or ha hb) fun σ H Q ⟨F, ρ, r, g⟩ => ?_
  refine ⟨F, ρ, r, g.bind.imp fun d k F' H' v x q => ?_⟩
  cases d with
  | bl c =>
    cases q
    refine ⟨c, rfl, ?_⟩
    cases c with
    | true => rw [if_pos rfl]; exact k F' H' _ x (.bl true)
    | false => rw [if_neg Bool.false_ne_true]; exact ⟨F', ρ, r.ext x, ((k : Got _ _ _ _ _ _ _).move x).imp fun y z F2 H2 v x2 => z F2 H2 v (x.trans x2)⟩
  | _ => exact False.elim k
theorem em_not (ha : PBm X F0 H0 W a ma) : PEm X F0 H0 W (.UnaryOp .Not a pos) (eNot ma) := by
  refine PE.imp (pe_notT ha) fun σ H Q ⟨F, ρ, r, g⟩ => ?_
  refine ⟨F, ρ, r, g.bind.imp fun d k F' H' v x q => ?_⟩
  obtain ⟨b, e, k⟩ := k.bind.of
  exact ⟨b, q.truth x.fh e, k F' H' _ x (.bl _)⟩
def eNeg (ma : EM) : EM := fun ρ => (ma ρ).bind fun x => match x with
  | .int i => .ok (.int (-i))
  | _ => .no
theorem em_neg (ha : PBm X F0 H0 W a ma) : PEm X F0 H0 W (.UnaryOp .USub a pos) (eNeg ma) := by
  refine PE.imp (pe_un un_neg ha) fun σ H Q ⟨F, ρ, r, g⟩ => ?_
  refine ⟨F, ρ, r, g.bind.imp fun d k F' H' v x q => ?_⟩
  cases d with
  | int i => exact ⟨i, q.int, k F' H' _ x (.int _)⟩
  | _ => exact False.elim k
def eIf (p : TM) (ma mb : EM) : EM := fun ρ => (p ρ).bind fun b => if b then ma ρ else mb ρ
theorem em_if {t : Expr} (ht : PTm X F0 H0 W t p) (ha : PEm X F0 H0 W a ma) (hb : PEm X F0 H0 W b mb) : PEm X F0 H0 W (.IfExp t a b pos) (eIf p ma mb) := by
  refine PE.imp (pe_ifExp ht ha hb) fun σ H Q ⟨F, ρ, r, g⟩ => ?_
  refine ⟨F, ρ, r, g.bind.imp fun d k F' H' x => ?_⟩
  cases d with
  | true => rw [if_pos rfl]; exact ⟨F', ρ, r.ext x, ((k : Got _ _ _ _ _ _ _).move x).imp fun y z F2 H2 v x2 => z F2 H2 v (x.trans x2)⟩
  | false => rw [if_neg Bool.false_ne_true]; exact ⟨F', ρ, r.ext x, ((k : Got _ _ _ _ _ _ _).move x).imp fun y z F2 H2 v x2 => z F2 H2 v (x.trans x2)⟩

/-! ### lists of arguments, displays -/
theorem am_nil : PAm X F0 H0 W [] [] := PA.imp pa_nil fun σ H Q ⟨F, ρ, r, g⟩ => g F H [] (Ext.refl r.fh) .nil
theorem am_cons (ha : PEm X F0 H0 W e m) (hr : PAm X F0 H0 W es ms) (hs : starEach (e :: es) X.env = (false, eval e X.env) :: starEach es X.env := by rfl) : PAm X F0 H0 W (e :: es) (m :: ms) := by
  refine PA.imp (pa_cons ha hr hs) fun σ H Q ⟨F, ρ, r, g⟩ => ?_
  refine ⟨F, ρ, r, g.bind.imp fun d k F' H' v x q => ?_⟩
  exact ⟨F', ρ, r.ext x, (k.move x).bind.imp fun ds z F2 H2 vs x2 l => z F2 H2 _ (x.trans x2) (.cons (q.mono x2.ff) l)⟩
theorem ab_nil : PAb X F0 H0 W [] [] := PA.imp pa_nil fun σ H Q ⟨F, ρ, r, g⟩ => g F H [] (Ext.refl r.fh) .nil
theorem ab_cons (ha : PBm X F0 H0 W e m) (hr : PAb X F0 H0 W es ms) (hs : starEach (e :: es) X.env = (false, eval e X.env) :: starEach es X.env := by rfl) : PAb X F0 H0 W (e :: es) (m :: ms) := by
  refine PA.imp (pa_cons ha hr hs) fun σ H Q ⟨F, ρ, r, g⟩ => ?_
  refine ⟨F, ρ, r, g.bind.imp fun d k F' H' v x q => ?_⟩
  exact ⟨F', ρ, r.ext x, (k.move x).bind.imp fun ds z F2 H2 vs x2 l => z F2 H2 _ (x.trans x2) (.cons (q.ext x2) l)⟩
def eTup (ms : List EM) : EM := fun ρ => (aAll ms ρ).bind fun ds => .ok (.tup ds)
def eLst (ms : List EM) : EM := fun ρ => (aAll ms ρ).bind fun ds => .ok (.lst ds)
theorem aAll_got {F H : Hp} {σ : St} {ρ : Env} {k : List D → Prop} {mg : Str → Option Value} (g : Got mg W F H σ (aAll ms ρ) k) : Got mg W F H σ (aAll ms ρ) fun ds => k ds ∧ ds.length = ms.length := by
  cases e : aAll ms ρ with
  | ok ds => rw [e] at g; exact ⟨g, aAll_len e⟩
  | ex c => rw [e] at g; exact g
  | no => rw [e] at g; exact g
theorem em_tup {x1 : Nat} (h : PAm X F0 H0 W es ms) (hn : ms.length ≤ lim := by decide) : PEm X F0 H0 W (.Tuple es x1 pos) (eTup ms) := by
  refine PE.imp (pe_tup h) fun σ H Q ⟨F, ρ, r, g⟩ => ?_
  refine ⟨F, ρ, r, (aAll_got g.bind).imp fun ds ⟨k, hl⟩ F' H' vs x l => ?_⟩
  refine ⟨by rw [l.len, hl]; exact lim_line hn, tup_new x.fh l fun F2 H2 v x2 q => k F2 H2 v (x.trans x2) q⟩
theorem fm_lst (h : PAm X F0 H0 W es ms) (hn : ms.length ≤ lim := by decide) : PFm X F0 H0 W (.List es pos) (eLst ms) := by
  refine PE.imp (pe_lst h) fun σ H Q ⟨F, ρ, r, g⟩ => ?_
  refine ⟨F, ρ, r, (aAll_got g.bind).imp fun ds ⟨k, hl⟩ F' H' vs x l => ?_⟩
  refine ⟨by rw [l.len, hl]; exact lim_line hn, fun p n => ?_⟩
  refine k F' _ p ⟨x.ff, x.fh.trans (same_upd n), x.hh.trans (same_upd n), x.nw⟩ (x.fh.free n) (x.hh.free n) ⟨vs, upd_same, l⟩

/-! ### subscripts -/
theorem em_idx (hu : X.A.units + 65 < cLine) (ha : PBm X F0 H0 W a ma) (hb : PBm X F0 H0 W b mb) (hs : PlainIx b := by exact fun _ _ => rfl) : PEm X F0 H0 W (.Subscript a b pos) (eOp D.idx ma mb) := PE.imp (pe_ix (ixm_any hu) ha hb hs) (two rfl)
def oInt (m : Option EM) : Env → R (Option Int) := fun ρ => match m with
  | none => .ok none
  | some m => (m ρ).bind fun d => match d with
    | .int i => .ok (some i)
    | _ => .no
def eSl (ma : EM) (lo hi : Option EM) : EM := fun ρ => (ma ρ).bind fun x => (oInt lo ρ).bind fun l => (oInt hi ρ).bind fun u => R.of (D.slice x l u)
def POm (X : Cx) (F0 H0 : Hp) (W : WX) (e : Option Expr) (m : Option EM) : Prop := ∃ t, PO X e t ∧ ∀ σ H (Q : Option Int → Hp → Prop) F ρ, Rel X.kw X.mg F0 H0 F σ H ρ → Got X.mg W F H σ (oInt m ρ) (fun o => ∀ F' H', Ext F H F' H' → Q o H') → t σ H Q
theorem om_none : POm X F0 H0 W none none := ⟨_, po_none, fun σ H Q F ρ r g => g F H (Ext.refl r.fh)⟩
theorem om_some (ha : PBm X F0 H0 W a ma) : POm X F0 H0 W (some a) (some ma) := ⟨_, po_some ha, fun σ H Q F ρ r g => by
  have g1 : Got X.mg W F H σ ((ma ρ).bind fun d => match d with
    | .int i => .ok (some i)
    | _ => .no) (fun o => ∀ F' H', Ext F H F' H' → Q o H') := g
  refine ⟨F, ρ, r, g1.bind.imp fun d k F' H' v x q => ?_⟩
  cases d with
  | int i => exact ⟨i, q.int, k F' H' x⟩
  | _ => exact False.elim k⟩
theorem em_sl {lo hi : Option Expr} {ml mh : Option EM} {p2 : Pos} (ha : PBm X F0 H0 W a ma) (hl : POm X F0 H0 W lo ml) (hh : POm X F0 H0 W hi mh) : PEm X F0 H0 W (.Subscript a (.Slice lo hi none p2) pos) (eSl ma ml mh) := by
  obtain ⟨tl, pl, kl⟩ := hl
  obtain ⟨th, ph, kh⟩ := hh
  refine PE.imp (pe_slice slm_any ha pl ph) fun σ H Q ⟨F, ρ, r, g⟩ => ?_
  refine ⟨F, ρ, r, g.bind.imp fun d k F1 H1 v x1 d1 => ?_⟩
  refine kl σ H1 _ F1 ρ (r.ext x1) ((k.move x1).bind.imp fun l k F2 H2 x2 => ?_)
  refine kh σ H2 _ F2 ρ ((r.ext x1).ext x2) ((k.move x2).bind.imp fun u k F3 H3 x3 => ?_)
  obtain ⟨z, e, k⟩ := k.of
  exact ⟨F3, d, z, x3.fh, d1.ext (x2.trans x3), e, fun F4 H4 w x4 q => k F4 H4 w (x1.trans (x2.trans (x3.trans x4))) q⟩
end
end L2.Pv

set_option Elab.async false
set_option linter.all false
set_option maxRecDepth 100000
set_option maxHeartbeats 4000000
set_option autoImplicit false
/-! Calls, walks, comprehensions, statements. -/
namespace L2.Pv
open PySem PySem.Spec PyProof.Rows

/-! ### defs -/
section
variable (K : KW) (mg : Str → Option Value)
/-- a def's promise: on data it comes to what f tells; what stood stands -/
def spM (n : Nat) (f : List D → R D) : Sp := fun vs H Q E => ∃ F ds, Same F H ∧ DatL K mg F vs ds ∧ ds.length = n ∧ match f ds with
  | .ok d => ∀ F' H' v, Ext F H F' H' → Dat K mg F' v d → Q v H'
  | .ex c => ∀ F' H' C, Ext F H F' H' → mg c = some (Value.ref C) → E (.ref C) none H'
  | .no => False
end
section
variable (K : PySem.W.Frag) (mg : Str → Option Value)
/-- the module's name x is a def that keeps the promise of f, by at most level k -/
def Fn (P : Program) (w : World) (base : Heap) (x : Str) (n k : Nat) (f : List D → R D) : Prop :=
  ∃ (fa : Addr) (fd : FuncData) (ps : List Str), ps.length = n ∧ mg x = some (.ref fa) ∧ PySem.W.keepIn K (.ref fa) = true ∧ Binds K fd ps [] ∧ FnOk P w K mg base (L2.CX P w) k fa fd ps (spM ⟨K, w⟩ mg n f)
end
def eCall (f : List D → R D) (ms : List EM) : EM := fun ρ => (aAll ms ρ).bind f
section
variable {X : Cx} {F0 H0 : Hp} {W : WX} {e a b c : Expr} {m ma mb : EM} {es : List Expr} {ms : List EM} {pos : Pos}
theorem em_call {x : Str} {n j k : Nat} {f : List D → R D} {p : Pos} (G : Fn X.K X.mg X.prog X.w X.base x n j f) (hr : Room k X.A) (hj : j ≤ k) (tk : Takes X W) (hg : Gl X x) (ha : PAm X F0 H0 W (e :: es) ms) (hn : ms.length = n := by rfl) (hdb : (x == ("__debug__" : Str)) = false := by decide)
    (he : starEach (e :: es) X.env = (false, eval e X.env) :: starEach es X.env := by rfl) (hpl : (backTo pos (starEach es X.env)).any (·.1) = false := by rfl) : PEm X F0 H0 W (.Call (.Name x p) (e :: es) [] pos) (eCall f ms) := by
  obtain ⟨fa, fd, ps, hl, hm, hk, hb, G⟩ := G
  refine PE.imp (pe_callS G (hr.mono hj) hg hm hk hb (fun σ => passAt tk σ) ha hdb he hpl) fun σ H Q ⟨F, ρ, r, g⟩ => ?_
  refine ⟨F, ρ, r, (aAll_got g.bind).imp fun ds ⟨k, hd⟩ F' H' vs x l => ⟨F', ds, x.fh, l, hd.trans hn, ?_⟩⟩
  cases q : f ds with
  | ok d => rw [q] at k; exact fun F2 H2 v x2 z => k F2 H2 v (x.trans x2) z
  | ex c => rw [q] at k; exact fun F2 H2 C x2 z => k F2 H2 C (x.trans x2) z
  | no => rw [q] at k; exact k

/-! ### built-in functions upon data -/
def CallM (X : Cx) (v : Value) (g : List D → Option D) : Prop := CallR X v fun xs H Q => ∃ F ds d, Same F H ∧ DatBL X.kw X.mg F H xs ds ∧ g ds = some d ∧ ∀ F' H' v, Ext F H F' H' → Dat X.kw X.mg F' v d → Q v H'
def CallF (X : Cx) (v : Value) (g : List D → Option D) : Prop := CallR X v fun xs H Q => ∃ F ds d, Same F H ∧ DatBL X.kw X.mg F H xs ds ∧ g ds = some d ∧ ∀ F' H' a, Ext F H F' H' → F' a = none → H a = none → OwnAt X.kw X.mg F' H' a d → Q (.ref a) H'
def eBf (g : List D → Option D) (ms : List EM) : EM := fun ρ => (aAll ms ρ).bind fun ds => R.of (g ds)
theorem em_bf {x : Str} {id : String} {p : Pos} {g : List D → Option D} (hc : CallM X (.builtin id) g) (hg : Gl X x) (hm : X.mg x = none) (hv : bootBuiltins x = some (.builtin id)) (ha : PAb X F0 H0 W (e :: es) ms) (hn : x ≠ "__name__" := by decide) (hdb : (x == ("__debug__" : Str)) = false := by decide)
    (he : starEach (e :: es) X.env = (false, eval e X.env) :: starEach es X.env := by rfl) (hpl : (backTo pos (starEach es X.env)).any (·.1) = false := by rfl) : PEm X F0 H0 W (.Call (.Name x p) (e :: es) [] pos) (eBf g ms) := by
  refine PE.imp (pe_callB hc hg hm hv ha hn hdb he hpl) fun σ H Q ⟨F, ρ, r, q⟩ => ?_
  refine ⟨F, ρ, r, q.bind.imp fun ds k F' H' vs x l => ?_⟩
  obtain ⟨d, e, k⟩ := k.of
  exact ⟨F', ds, d, x.fh, l, e, fun F2 H2 v x2 z => k F2 H2 v (x.trans x2) z⟩
theorem em_ty {x : Str} {T : String} {p : Pos} {g : List D → Option D} (hc : CallM X (.type T) g) (hg : Gl X x) (hm : X.mg x = none) (hv : bootBuiltins x = some (.type T)) (ha : PAb X F0 H0 W (e :: es) ms) (hn : x ≠ "__name__" := by decide) (hdb : (x == ("__debug__" : Str)) = false := by decide)
    (he : starEach (e :: es) X.env = (false, eval e X.env) :: starEach es X.env := by rfl) (hpl : (backTo pos (starEach es X.env)).any (·.1) = false := by rfl) : PEm X F0 H0 W (.Call (.Name x p) (e :: es) [] pos) (eBf g ms) := by
  refine PE.imp (pe_callTy hc hg hm hv ha hn hdb he hpl) fun σ H Q ⟨F, ρ, r, q⟩ => ?_
  refine ⟨F, ρ, r, q.bind.imp fun ds k F' H' vs x l => ?_⟩
  obtain ⟨d, e, k⟩ := k.of
  exact ⟨F', ds, d, x.fh, l, e, fun F2 H2 v x2 z => k F2 H2 v (x.trans x2) z⟩
theorem fm_ty {x : Str} {T : String} {p : Pos} {g : List D → Option D} (hc : CallF X (.type T) g) (hg : Gl X x) (hm : X.mg x = none) (hv : bootBuiltins x = some (.type T)) (ha : PAb X F0 H0 W (e :: es) ms) (hn : x ≠ "__name__" := by decide) (hdb : (x == ("__debug__" : Str)) = false := by decide)
    (he : starEach (e :: es) X.env = (false, eval e X.env) :: starEach es X.env := by rfl) (hpl : (backTo pos (starEach es X.env)).any (·.1) = false := by rfl) : PFm X F0 H0 W (.Call (.Name x p) (e :: es) [] pos) (eBf g ms) := by
  refine PE.imp (pe_callTy hc hg hm hv ha hn hdb he hpl) fun σ H Q ⟨F, ρ, r, q⟩ => ?_
  refine ⟨F, ρ, r, q.bind.imp fun ds k F' H' vs x l => ?_⟩
  obtain ⟨d, e, k⟩ := k.of
  exact ⟨F', ds, d, x.fh, l, e, fun F2 H2 a x2 n n0 z => k F2 H2 a (x.trans x2) n (x.hh.free n0) z⟩
theorem DatBL.one {K : KW} {mg : Str → Option Value} {F H : Hp} {vs : List V} {d : D} (h : DatBL K mg F H vs [d]) : ∃ v, vs = [v] ∧ DatB K mg F H v d := by
  cases h with | cons h l => cases l; exact ⟨_, rfl, h⟩
theorem DatBL.two {K : KW} {mg : Str → Option Value} {F H : Hp} {vs : List V} {d e : D} (h : DatBL K mg F H vs [d, e]) : ∃ v w, vs = [v, w] ∧ DatB K mg F H v d ∧ DatB K mg F H w e := by
  cases h with | cons h l => cases l with | cons h2 l => cases l; exact ⟨_, _, rfl, h, h2⟩
def bLen : List D → Option D
  | [x] => x.len
  | _ => none
theorem cm_len : CallM X (.builtin "len") bLen := by
  rintro pins s σ H xs us Q I r ⟨F, ds, d, fh, l, e, k⟩
  unfold bLen at e
  split at e
  · rename_i x
    obtain ⟨v, rfl, hx⟩ := l.one
    unfold D.len at e
    split at e
    · cases e
      obtain ⟨a, xs, rfl, h1, l1⟩ := hx.lst fh
      exact call_len pins s σ H _ us Q I r ⟨_, _, rfl, .inl ⟨xs, SqL.of h1, l1.len.symm⟩, k F H _ (Ext.refl fh) (.int _)⟩
    · cases e
      obtain ⟨a, xs, rfl, _, h1, l1⟩ := hx.tup fh
      exact call_len pins s σ H _ us Q I r ⟨_, _, rfl, .inr ⟨xs, SqT.of h1, l1.len.symm⟩, k F H _ (Ext.refl fh) (.int _)⟩
    · cases e
      rename_i ns
      obtain ⟨a, rfl, h1⟩ := hx.scr fh
      exact call_len pins s σ H _ us Q I r ⟨_, ns.length, rfl, .inl ⟨_, h1, by rw [List.length_map]⟩, k F H _ (Ext.refl fh) (.int _)⟩
    · split at e
      · rename_i z hl
        cases e
        have hv := hx.str
        subst hv
        exact call_len pins s σ H _ us Q I r ⟨_, _, rfl, ⟨lim_line hl, rfl⟩, k F H _ (Ext.refl fh) (.int _)⟩
      · cases e
    · cases e
      obtain ⟨a, kvs, rfl, h1, l1⟩ := hx.dctK fh
      obtain ⟨u, hu, rx⟩ := vals1 r
      subst hu
      cases rx
      refine d_len I h1 fun t s' I' => ⟨.int _, H, I', ⟨t, rfl⟩, ?_⟩
      have hl : ∀ {kvs : List (Key × V)} {ps : List (D × D)}, DatK X.kw X.mg F kvs ps → kvs.length = ps.length := by
        intro kvs
        induction kvs with
        | nil => intro ps h; cases h; rfl
        | cons p r ih => intro ps h; cases h with | cons h l => exact congrArg (· + 1) (ih l)
      rw [hl l1]
      exact k F H _ (Ext.refl fh) (.int _)
    · split at e
      · rename_i ps hl
        cases e
        obtain ⟨a, xs, rfl, ha, l1⟩ := hx.dcn fh
        obtain ⟨u, hu, rx⟩ := vals1 r
        subst hu
        cases rx
        obtain ⟨h0, dd⟩ := dn_of I fh ha l1
        have hn : ∀ {xs : List (NestedKey × Addr × Value)} {ps : List (D × D)}, DatN X.kw X.mg F xs ps → (pairsH xs).length = ps.length := by
          intro xs
          induction xs with
          | nil => intro ps h; cases h; rfl
          | cons p r ih => intro ps h; cases h with | cons e1 e2 q r z l => exact congrArg (· + 1) (ih l)
        have hn := hn l1
        have dk : s.heap.DictKeyed (nestedKind X.prog X.w) a (pairsH xs) := ⟨xs, dd, rfl⟩
        refine PyProof.Rows.call_len_slot (n := (pairsH xs).length) dk.typeIs PySem.F.slot_dict_len (fun Q' hq => len_keyed h0 dk hq) (by omega) (by have : ps.length ≤ 1000000 := hl; omega) ?_
        rw [hn]
        exact ⟨.int (ps.length : Nat), H, I.tok _, (show ∃ t, _ = Value.int _ t from ⟨_, rfl⟩), k F H _ (Ext.refl fh) (.int _)⟩
      · cases e
    · cases e
  · cases e
def bTuple : List D → Option D
  | [.lst ds] => some (.tup ds)
  | [.tup ds] => some (.tup ds)
  | _ => none
theorem cm_tuple : CallM X (.type "tuple") bTuple := by
  rintro pins s σ H xs us Q I r ⟨F, ds, d, fh, l, e, k⟩
  unfold bTuple at e
  split at e
  · cases e
    obtain ⟨v, rfl, hx⟩ := l.one
    obtain ⟨a, xs, rfl, h1, l1⟩ := hx.lst fh
    exact call_tuple_of pins s σ H _ us Q I r ⟨a, xs, rfl, .inl ⟨SqL.of h1, tup_new fh l1 k⟩⟩
  · cases e
    obtain ⟨v, rfl, hx⟩ := l.one
    obtain ⟨a, xs, rfl, f1, h1, l1⟩ := hx.tup fh
    exact call_tuple_of pins s σ H _ us Q I r ⟨a, xs, rfl, .inr ⟨SqT.of h1, k F H _ (Ext.refl fh) (.tup f1 l1)⟩⟩
  · cases e
def bList : List D → Option D
  | [.lst ds] => some (.lst ds)
  | [.tup ds] => some (.lst ds)
  | _ => none
theorem cf_list : CallF X (.type "list") bList := by
  rintro pins s σ H xs us Q I r ⟨F, ds, d, fh, l, e, k⟩
  have fin : ∀ {xs : List V} {ds : List D}, DatL X.kw X.mg F xs ds → d = .lst ds → ∀ p, H p = none → Q (.ref p) (upd H p (.lst xs)) := fun l e p n => by
    subst e
    exact k F _ p ⟨Same.refl F, fh.trans (same_upd n), same_upd n, fun a o e n => by rw [n] at e; cases e⟩ (fh.free n) n ⟨_, upd_same, l⟩
  unfold bList at e
  split at e
  · cases e
    obtain ⟨v, rfl, hx⟩ := l.one
    obtain ⟨a, xs, rfl, h1, l1⟩ := hx.lst fh
    exact call_list_of pins s σ H _ us Q I r ⟨a, xs, rfl, .inl (SqL.of h1), fin l1 rfl⟩
  · cases e
    obtain ⟨v, rfl, hx⟩ := l.one
    obtain ⟨a, xs, rfl, _, h1, l1⟩ := hx.tup fh
    exact call_list_of pins s σ H _ us Q I r ⟨a, xs, rfl, .inr (SqT.of h1), fin l1 rfl⟩
  · cases e
def bInt : List D → Option D
  | [.int i] => some (.int i)
  | [.bl b] => some (.int (if b then 1 else 0))
  | [.str x] => if x.length ≤ 640 then (PySem.intText? x).map D.int else none
  | _ => none
theorem cm_int : CallM X (.type "int") bInt := by
  rintro pins s σ H xs us Q I r ⟨F, ds, d, fh, l, e, k⟩
  unfold bInt at e
  split at e
  · cases e
    obtain ⟨v, rfl, hx⟩ := l.one
    exact call_int1 pins s σ H _ us Q I r (.inl ⟨_, by rw [hx.int], k F H _ (Ext.refl fh) (.int _)⟩)
  · cases e
    obtain ⟨v, rfl, hx⟩ := l.one
    exact call_int1 pins s σ H _ us Q I r (.inr ⟨_, by rw [hx.bl], k F H _ (Ext.refl fh) (.int _)⟩)
  · split at e
    · rename_i x hl
      obtain ⟨v, rfl, hx⟩ := l.one
      cases q : PySem.intText? x with
      | none => rw [q] at e; cases e
      | some n =>
        rw [q] at e; cases e
        exact call_int_str pins s σ H _ us Q I r ⟨x, n, by rw [hx.str], q, hl, k F H _ (Ext.refl fh) (.int _)⟩
    · cases e
  · cases e
def bStr : List D → Option D
  | [.int i] => if i.natAbs < 2 ^ 64 then some (.str (Str.ofString (toString i))) else none
  | _ => none
theorem log64 {n : Nat} (h : n < 2 ^ 64) : n.log2 < 1920 := by
  by_cases z : n = 0
  · subst z; decide
  · exact Nat.lt_trans ((Nat.log2_lt z).mpr h) (by decide)
theorem cm_str : CallM X (.type "str") bStr := by
  rintro pins s σ H xs us Q I r ⟨F, ds, d, fh, l, e, k⟩
  unfold bStr at e
  split at e
  · split at e
    · rename_i i hi
      cases e
      obtain ⟨v, rfl, hx⟩ := l.one
      exact call_str_int pins s σ H _ us Q I r ⟨_, by rw [hx.int], log64 hi, k F H _ (Ext.refl fh) (.str _)⟩
    · cases e
  · cases e
def bMax2 : List D → Option D
  | [.int i, .int j] => some (.int (if j > i then j else i))
  | _ => none
theorem cm_max2 (hc : X.calm = true) : CallM X (.builtin "max") bMax2 := by
  rintro pins s σ H xs us Q I r ⟨F, ds, d, fh, l, e, k⟩
  unfold bMax2 at e
  split at e
  · cases e
    obtain ⟨v, w, rfl, hx, hy⟩ := l.two
    exact call_max2 hc pins s σ H _ us Q I r ⟨_, _, by rw [hx.int, hy.int], k F H _ (Ext.refl fh) (.int _)⟩
  · cases e
def bMin2 : List D → Option D
  | [.int i, .int j] => some (.int (if j < i then j else i))
  | _ => none
theorem cm_min2 (hc : X.calm = true) : CallM X (.builtin "min") bMin2 := by
  rintro pins s σ H xs us Q I r ⟨F, ds, d, fh, l, e, k⟩
  unfold bMin2 at e
  split at e
  · cases e
    obtain ⟨v, w, rfl, hx, hy⟩ := l.two
    exact call_min2 hc pins s σ H _ us Q I r ⟨_, _, by rw [hx.int, hy.int], k F H _ (Ext.refl fh) (.int _)⟩
  · cases e
/-- isinstance against a built-in type -/
def D.tyN : D → Option String
  | .non => some "NoneType"
  | .bl _ => some "bool"
  | .int _ => some "int"
  | .str _ => some "str"
  | .tup _ => some "tuple"
  | .lst _ => some "list"
  | _ => none
def isTy (T U : String) : Bool := decide (T = U) || (decide (T = "bool") && decide (U = "int"))
def eIsi (U : String) (ma : EM) : EM := fun ρ => (ma ρ).bind fun d => (R.of d.tyN).bind fun T => .ok (.bl (isTy T U))
theorem DatB.ty {K : KW} {mg : Str → Option Value} {F H : Hp} {v : V} {d : D} {T : String} (fh : Same F H) (b : DatB K mg F H v d) (e : d.tyN = some T) : TyX K H v (.type T) := by
  cases d with
  | non => cases e; rw [b.non]; exact .base .non
  | bl x => cases e; rw [b.bl]; exact .base (.bl _)
  | int x => cases e; rw [b.int]; exact .base (.int _)
  | str x => cases e; rw [b.str]; exact .base (.str _)
  | tup ds => cases e; obtain ⟨a, xs, rfl, _, h1, _⟩ := b.tup fh; exact .base (.tup h1)
  | lst ds => cases e; obtain ⟨a, xs, rfl, h1, _⟩ := b.lst fh; exact .base (.lst h1)
  | _ => cases e
/-- what isinstance says of two built-in types -/
def KitOk (K : PySem.W.Frag) (U : String) : Prop := ∀ T, T ∈ ["NoneType", "bool", "int", "str", "tuple", "list"] → PySem.W.kitOne K (.type T) (.type U) = some (isTy T U)
theorem D.tyN_mem {d : D} {T : String} (e : d.tyN = some T) : T ∈ ["NoneType", "bool", "int", "str", "tuple", "list"] := by
  cases d <;> first | (cases e; simp) | cases e
theorem em_isi {U : String} {y : Str} {p q : Pos} (kit : KitOk X.K U) (hg : Gl X "isinstance") (hm : X.mg "isinstance" = none) (hgy : Gl X y) (hmy : X.mg y = none) (hby : bootBuiltins y = some (.type U)) (ha : PBm X F0 H0 W a ma) (hny : y ≠ "__name__" := by decide) (hdy : (y == ("__debug__" : Str)) = false := by decide)
    (he : starEach [a, .Name y q] X.env = (false, eval a X.env) :: starEach [.Name y q] X.env := by rfl) (he2 : starEach [.Name y q] X.env = (false, eval (.Name y q) X.env) :: starEach [] X.env := by rfl) (hpl : (backTo pos (starEach [.Name y q] X.env)).any (·.1) = false := by rfl) : PEm X F0 H0 W (.Call (.Name "isinstance" p) [a, .Name y q] [] pos) (eIsi U ma) := by
  have hb : PE X (.Name y q) (tC (.ty U)) := pe_bltn hgy hmy hby rfl hny hdy
  refine PE.imp (pe_callB call_isi hg hm (by decide +kernel) (pa_cons ha (pa_cons hb pa_nil he2) he) (by decide) (by decide) he hpl) fun σ H Q ⟨F, ρ, r, g⟩ => ?_
  refine ⟨F, ρ, r, g.bind.imp fun d k F' H' v x q => ?_⟩
  obtain ⟨T, e, k⟩ := k.bind.of
  exact ⟨v, .ty U, .type T, .type U, isTy T U, rfl, .ty U, q.ty x.fh e, kit T (D.tyN_mem e), k F' H' _ x (.bl _)⟩

/-! ### methods of built-in types upon data -/
def MetM (X : Cx) (id : String) (g : D → List D → Option D) : Prop := MtR X id fun x xs H Q => ∃ F dx ds d, Same F H ∧ DatB X.kw X.mg F H x dx ∧ DatBL X.kw X.mg F H xs ds ∧ g dx ds = some d ∧ ∀ F' H' v, Ext F H F' H' → Dat X.kw X.mg F' v d → Q v H'
def eMet (T : D → Bool) (g : D → List D → Option D) (ma : EM) (ms : List EM) : EM := fun ρ => (ma ρ).bind fun x => if T x then (aAll ms ρ).bind fun ds => R.of (g x ds) else .no
def D.isStr : D → Bool
  | .str _ => true
  | _ => false
def D.isLst : D → Bool
  | .lst _ => true
  | _ => false
def D.isDct : D → Bool
  | .dct _ _ => true
  | _ => false
theorem isStr_ty {K : KW} {mg : Str → Option Value} {F H : Hp} {v : V} {d : D} (fh : Same F H) (b : DatB K mg F H v d) (h : d.isStr = true) : tyV K "str" v H := by
  cases d with
  | str x => rw [b.str]; rfl
  | _ => cases h
theorem isLst_ty {K : KW} {mg : Str → Option Value} {F H : Hp} {v : V} {d : D} (fh : Same F H) (b : DatB K mg F H v d) (h : d.isLst = true) : tyV K "list" v H := by
  cases d with
  | lst x => obtain ⟨a, xs, rfl, h1, _⟩ := b.lst fh; exact .inl ⟨rfl, xs, SqL.of h1⟩
  | _ => cases h
variable {name : Str} {apos cpos : Pos}
theorem em_met {TN : String} {id : String} {T : D → Bool} {g : D → List D → Option D} (hT : ∀ {F H : Hp} {v : V} {d : D}, Same F H → DatB X.kw X.mg F H v d → T d = true → tyV X.K TN v H) (pa : PlainAttrs TN) (slot : Slot TN name id) (hty : typeOf (.builtin id) = pure (.type "method_descriptor")) (hm : MetM X id g)
    (ho : PBm X F0 H0 W a ma) (ha : PAb X F0 H0 W (e :: es) ms)
    (hbase : attributeBase a name X.env (eval a X.env) = eval a X.env := by rfl)
    (hfew : ((backTo cpos (starEach (e :: es) X.env)).all (fun x => !x.1) && (backToKw cpos (keywordEach [] X.env)).all (fun x => x.1.isSome) && decide ((e :: es).length + ([] : List Keyword).length + (if ([] : List Keyword).isEmpty then 0 else 1) < 30)) = true := by rfl)
    (hline : (apos.endLine == cpos.line) = true := by rfl) (hs : starEach (e :: es) X.env = (false, eval e X.env) :: starEach es X.env := by rfl) (hplain : (backTo cpos (starEach es X.env)).any (·.1) = false := by rfl) :
    PEm X F0 H0 W (.Call (.Attribute a name apos) (e :: es) [] cpos) (eMet T g ma ms) := by
  refine PE.imp (pe_bm pa slot hty hm ho ha hbase hfew hline hs hplain) fun σ H Q ⟨F, ρ, r, q⟩ => ?_
  refine ⟨F, ρ, r, q.bind.imp fun d k F1 H1 v x1 d1 => ?_⟩
  by_cases ht : T d = true
  · rw [if_pos ht] at k
    refine ⟨hT x1.fh d1 ht, F1, ρ, r.ext x1, (k.move x1).bind.imp fun ds k F2 H2 vs x2 l => ?_⟩
    obtain ⟨z, e, k⟩ := k.of
    exact ⟨F2, d, ds, z, x2.fh, d1.ext x2, l, e, fun F3 H3 w x3 q => k F3 H3 w (x1.trans (x2.trans x3)) q⟩
  · rw [if_neg ht] at k
    exact False.elim k
/-- a list's texts -/
def D.strs : List D → Option (List Str)
  | [] => some []
  | .str x :: r => (D.strs r).map (x :: ·)
  | _ => none
theorem strs_V {K : KW} {mg : Str → Option Value} {F : Hp} : ∀ {vs : List V} {ds : List D} {xs : List Str}, DatL K mg F vs ds → D.strs ds = some xs → vs = xs.map V.str
  | _, _, _, .nil, h => by cases h; rfl
  | _, _, _, .cons (d := d) (ds := ds) hv l, h => by
    cases d with
    | str x =>
      have h1 : (D.strs ds).map (x :: ·) = some _ := h
      cases q : D.strs ds with
      | none => rw [q] at h1; cases h1
      | some r =>
        rw [q] at h1; cases h1
        cases hv
        rw [strs_V l q]
        rfl
    | _ => cases h
def mJoin (x : D) : List D → Option D
  | [.lst ds] => match x, D.strs ds with
    | .str y, some xs => if (xs.map Str.length).sum + xs.length * y.length ≤ lim then some (.str (Txt.join y xs)) else none
    | _, _ => none
  | _ => none
end
end L2.Pv

set_option Elab.async false
set_option linter.all false
set_option maxRecDepth 100000
set_option maxHeartbeats 4000000
set_option autoImplicit false
/-! Walks, comprehensions, statements. -/
namespace L2.Pv
open PySem PySem.Spec PyProof.Rows

/-! ### what is walked -/
/-- the iterator J yields these data, whatever is added to the frozen part -/
def ItOk (K : KW) (mg : Str → Option Value) (F : Hp) (J : It) (ds : List D) : Prop := ∀ (i : Nat) (F1 H1 : Hp), Same F F1 → Same F1 H1 →
  (∀ d, ds[i]? = some d → J.go i H1 ∧ ∀ x H2, J.yld i H1 x H2 → ∃ F2, Ext F1 H1 F2 H2 ∧ Dat K mg F2 x d) ∧ (ds.length ≤ i → J.stop i H1)
def tIm (K : KW) (mg : Str → Option Value) (F0 H0 : Hp) (W : WX) (m : AM) : TI := fun σ H R => ∃ F ρ, Rel K mg F0 H0 F σ H ρ ∧ Got mg W F H σ (m ρ) fun ds => ∀ F' H' J, Ext F H F' H' → ItOk K mg F' J ds → R J H'
def PIm (X : Cx) (F0 H0 : Hp) (W : WX) (tg iter : Expr) (m : AM) : Prop := PI X tg iter (tIm X.kw X.mg F0 H0 W m)
theorem PI.imp {X : Cx} {tg iter : Expr} {t t' : TI} (h : PI X tg iter t) (f : ∀ σ H R, t' σ H R → t σ H R) : PI X tg iter t' := ⟨fun pins s σ H Q I q => h.run pins s σ H Q I (f σ H Q q)⟩
/-- the items of a value -/
def D.items : D → Option (List D)
  | .lst ds => some ds
  | .tup ds => some ds
  | .str z => some (z.cps.toList.map fun c => .str ⟨#[c]⟩)
  | .dct _ ps => some (ps.map (·.1))
  | .scr ns => some (ns.map D.int)
  | _ => none
section
variable {X : Cx} {F0 H0 : Hp} {W : WX} {e a b c tg : Expr} {m ma mb mc : EM} {es : List Expr} {ms : List EM} {pos : Pos}
theorem DatK.keys {K : KW} {mg : Str → Option Value} {F : Hp} : ∀ {kvs : List (Key × V)} {ps : List (D × D)} {i : Nat} {k : Key} {v : V}, DatK K mg F kvs ps → kvs[i]? = some (k, v) → (ps.map (·.1))[i]? = some (keyD k)
  | _, _, 0, _, _, .cons _ _, h => by cases h; rfl
  | _, _, i + 1, _, _, .cons _ l, h => DatK.keys (i := i) l h
theorem DatK.len {K : KW} {mg : Str → Option Value} {F : Hp} : ∀ {kvs : List (Key × V)} {ps : List (D × D)}, DatK K mg F kvs ps → kvs.length = ps.length
  | _, _, .nil => rfl
  | _, _, .cons _ l => congrArg (· + 1) l.len
theorem DatT.keys {K : KW} {mg : Str → Option Value} {F : Hp} : ∀ {kvs : List (List Key × V)} {ps : List (D × D)} {i : Nat} {k : List Key} {v : V}, DatT K mg F kvs ps → kvs[i]? = some (k, v) → (ps.map (·.1))[i]? = some (.tup (k.map keyD))
  | _, _, 0, _, _, .cons _ _, h => by cases h; rfl
  | _, _, i + 1, _, _, .cons _ l, h => DatT.keys (i := i) l h
theorem DatT.len {K : KW} {mg : Str → Option Value} {F : Hp} : ∀ {kvs : List (List Key × V)} {ps : List (D × D)}, DatT K mg F kvs ps → kvs.length = ps.length
  | _, _, .nil => rfl
  | _, _, .cons _ l => congrArg (· + 1) l.len
theorem keyD_dat {K : KW} {mg : Str → Option Value} {F : Hp} (k : Key) : Dat K mg F (kV k) (keyD k) := by
  cases k with
  | inl i => exact .int i
  | inr x => exact .str x
theorem keysD_dat {K : KW} {mg : Str → Option Value} {F : Hp} : ∀ ks : List Key, DatL K mg F (ks.map kV) (ks.map keyD)
  | [] => .nil
  | k :: ks => .cons (keyD_dat k) (keysD_dat ks)
theorem itl_ok {K : KW} {mg : Str → Option Value} {F : Hp} {a : Addr} {xs : List V} {ds : List D} (h : F a = some (.lst xs)) (l : DatL K mg F xs ds) (inj : ∀ (H1 : Hp) (ys : List V), Same F H1 → SqL K H1 a ys → ys = xs) : ItOk K mg F (Itl K a) ds := fun i F1 H1 s1 s2 => by
  have q : SqL K H1 a xs := SqL.of (s2 _ _ (s1 _ _ h))
  refine ⟨fun d hd => ?_, fun hl => ⟨xs, q, by rw [l.len]; exact hl⟩⟩
  obtain ⟨v, hv, dv⟩ := l.getD hd
  refine ⟨⟨xs, v, q, hv⟩, fun x H2 ⟨e, y⟩ => ?_⟩
  subst e
  have z := y xs q
  rw [hv] at z; cases z
  exact ⟨F1, Ext.refl s2, dv.mono s1⟩
/-- a value, walked -/
def iV (m : EM) : AM := fun ρ => (m ρ).bind fun d => R.of d.items
theorem im_any (he : PEm X F0 H0 W e m) : PIm X F0 H0 W tg e (iV m) := by
  refine ⟨fun pins s σ H R I ⟨F, ρ, r, g⟩ => ?_⟩
  refine thn (PE.run he pins s σ H (fun v H' => ∃ F' d ds, Ext F H F' H' ∧ Dat X.kw X.mg F' v d ∧ d.items = some ds ∧ ∀ F' H' J, Ext F H F' H' → ItOk X.kw X.mg F' J ds → R J H') I ⟨F, ρ, r, g.bind.imp fun d k F' H' v x q => ?_⟩) fun v s1 ⟨y, H1, I1, r1, F1, d, ds, x, q, e, k⟩ => ?_
  · obtain ⟨ds, e, k⟩ := k.of
    exact ⟨F', d, ds, x, q, e, k⟩
  cases q with
  | @tup a xs ds' h l =>
    cases e
    cases r1
    have hq : SqT X.K H1 a xs := SqT.of (x.fh _ _ h)
    obtain ⟨its, rv, p, hz⟩ := I1.tuple hq
    refine wpAny_pyIter_tuple (show s1.heap.IsTuple a its.toArray from p) (pi_one (tk := s1.toks) I1 _ (turn_tuple a _) ⟨_, Heap.get?_push_size _ rfl, rfl, rfl⟩ (k F1 H1 _ x fun i F2 H2 s1 s2 => ?_))
    have q : SqT X.K H2 a xs := SqT.of (s2 _ _ (s1 _ _ h))
    refine ⟨fun d hd => ?_, fun hl => ⟨xs, q, by rw [l.len]; exact hl⟩⟩
    obtain ⟨v, hv, dv⟩ := l.getD hd
    refine ⟨⟨xs, v, q, hv⟩, fun x H3 ⟨e, y⟩ => ?_⟩
    subst e
    have z := y xs q
    rw [hv] at z; cases z
    exact ⟨F2, Ext.refl s2, dv.mono s1⟩
  | @lst a xs ds' h l =>
    cases e
    cases r1
    have hq : SqL X.K H1 a xs := SqL.of (x.fh _ _ h)
    obtain ⟨its, rv, p, hz⟩ := I1.list hq
    refine wpAny_pyIter_list p.isList (pi_one (tk := s1.toks) I1 _ (turn_list a _) ⟨_, Heap.get?_push_size _ rfl, rfl, rfl⟩ (k F1 H1 _ x fun i F2 H2 s1 s2 => ?_))
    have q : SqL X.K H2 a xs := SqL.of (s2 _ _ (s1 _ _ h))
    refine ⟨fun d hd => ?_, fun hl => ⟨xs, q, by rw [l.len]; exact hl⟩⟩
    obtain ⟨v, hv, dv⟩ := l.getD hd
    refine ⟨⟨xs, v, q, hv⟩, fun x H3 ⟨e, y⟩ => ?_⟩
    subst e
    have z := y xs q
    rw [hv] at z; cases z
    exact ⟨F2, Ext.refl s2, dv.mono s1⟩
  | @scr a ns h =>
    cases e
    cases r1
    have hq : SqL X.K H1 a (ns.map V.int) := SqL.mono x.fh h
    obtain ⟨its, rv, p, hz⟩ := I1.list hq
    refine wpAny_pyIter_list p.isList (pi_one (tk := s1.toks) I1 _ (turn_list a _) ⟨_, Heap.get?_push_size _ rfl, rfl, rfl⟩ (k F1 H1 _ x fun i F2 H2 s1 s2 => ?_))
    have q : SqL X.K H2 a (ns.map V.int) := SqL.mono s2 (SqL.mono s1 h)
    refine ⟨fun d hd => ?_, fun hl => ⟨_, q, by rw [List.length_map] at hl ⊢; exact hl⟩⟩
    rw [List.getElem?_map] at hd
    cases hn : ns[i]? with
    | none => rw [hn] at hd; cases hd
    | some n =>
      rw [hn] at hd; cases hd
      have hv : (ns.map V.int)[i]? = some (.int n) := by rw [List.getElem?_map, hn]; rfl
      refine ⟨⟨_, _, q, hv⟩, fun x H3 ⟨e, y⟩ => ?_⟩
      subst e
      have z := y _ q
      rw [hv] at z; cases z
      exact ⟨F2, Ext.refl s2, .int n⟩
  | str z =>
    cases e
    obtain ⟨t, rfl⟩ := r1
    have ok : ItOk X.kw X.mg F1 (Its z) (z.cps.toList.map fun c => .str ⟨#[c]⟩) := fun i F2 H2 s1 s2 => by
      refine ⟨fun d hd => ?_, fun hl => by rw [List.length_map, Array.length_toList] at hl; exact hl⟩
      rw [List.getElem?_map] at hd
      cases hn : z.cps.toList[i]? with
      | none => rw [hn] at hd; cases hd
      | some n =>
        rw [hn] at hd; cases hd
        have hi : z.cps[i]? = some n := by rw [← Array.getElem?_toList]; exact hn
        refine ⟨(Array.getElem?_eq_some_iff.mp hi).1, fun x H3 ⟨e, c, hc, ec⟩ => ?_⟩
        subst e ec
        rw [hi] at hc; cases hc
        exact ⟨F2, Ext.refl s2, .str _⟩
    cases ha : z.cps.all (· < 128)
    · exact wpAny_pyIter_wide ha (pi_one (tk := s1.toks) I1 _ (turn_str _ z t "str_iterator" (.inr rfl)) ⟨_, Heap.get?_push_size _ rfl, rfl, rfl⟩ (k F1 H1 _ x ok))
    · exact wpAny_pyIter_ascii ha (pi_one (tk := s1.toks) I1 _ (turn_str _ z t "str_ascii_iterator" (.inl rfl)) ⟨_, Heap.get?_push_size _ rfl, rfl, rfl⟩ (k F1 H1 _ x ok))
  | @dctK d o kvs ps h l =>
    cases e
    cases r1
    have hd := x.fh _ _ h
    obtain ⟨hs, hgd, hx, es, ep, vs, hdt, hsz, kv, hm⟩ := I1.frzK hd
    refine iter_keys hs hgd hx hdt (pi_one (tk := s1.toks) (J := Itk d o kvs) I1 _ (turn_keys _ hdt) ⟨_, Heap.get?_push_size _ rfl, rfl, ?_⟩ (k F1 H1 _ x fun i F2 H2 s1 s2 => ?_))
    · rw [hsz] <;> rfl
    have q := s2 _ _ (s1 _ _ h)
    refine ⟨fun d' hd' => ?_, fun hl => ⟨q, by rw [List.length_map] at hl; rw [l.len]; exact hl⟩⟩
    have hi : i < kvs.length := by
      have := (List.getElem?_eq_some_iff.mp hd').1
      rw [List.length_map] at this
      rw [l.len]; exact this
    refine ⟨⟨q, hi⟩, fun y H3 ⟨e, k', v', e1, e2⟩ => ?_⟩
    subst e e2
    have z := DatK.keys l e1
    rw [hd'] at z; cases z
    exact ⟨F2, Ext.refl s2, keyD_dat k'⟩
  | @dctT d o kvs ps h l =>
    cases e
    cases r1
    have hd := x.fh _ _ h
    obtain ⟨hs, hgd, hx, es, ep, hdt, hsz, ent⟩ := I1.frzT hd
    refine iter_keys hs hgd hx hdt (pi_one (tk := s1.toks) (J := Itkt d o kvs) I1 _ (turn_keysT _ hdt) ⟨_, Heap.get?_push_size _ rfl, rfl, ?_⟩ (k F1 H1 _ x fun i F2 H2 s1 s2 => ?_))
    · rw [hsz] <;> rfl
    have q := s2 _ _ (s1 _ _ h)
    refine ⟨fun d' hd' => ?_, fun hl => ⟨q, by rw [List.length_map] at hl; rw [l.len]; exact hl⟩⟩
    have hi : i < kvs.length := by
      have := (List.getElem?_eq_some_iff.mp hd').1
      rw [List.length_map] at this
      rw [l.len]; exact this
    refine ⟨⟨q, hi⟩, fun y H3 ⟨e, k', v', b, e1, e2, hb⟩ => ?_⟩
    subst e e2
    have z := DatT.keys l e1
    rw [hd'] at z; cases z
    by_cases hF : F2 b = none
    · refine ⟨upd F2 b (.tup (k'.map kV)), ⟨same_upd hF, fun c w hc => ?_, Same.refl _, fun c w hc hn => ?_⟩, .tup upd_same (keysD_dat k')⟩
      · by_cases qc : c = b
        · subst qc; rw [upd_same] at hc; cases hc; exact hb
        · rw [upd_ne qc] at hc; exact s2 c w hc
      · by_cases qc : c = b
        · subst qc; rw [upd_same] at hc; cases hc; exact .inr ⟨_, rfl⟩
        · rw [upd_ne qc, hn] at hc; cases hc
    · cases qF : F2 b with
      | none => exact absurd qF hF
      | some w =>
        have := s2 _ _ qF
        rw [hb] at this; cases this
        exact ⟨F2, Ext.refl s2, .tup qF (keysD_dat k')⟩
  | _ => cases e

/-! ### ranges -/
def rg1 : List D → Option (List D)
  | [.int j] => if decide (-(2 ^ 62) ≤ j) && decide (j < 2 ^ 62) then some ((List.range j.toNat).map fun i : Nat => .int i) else none
  | _ => none
def rg2 : List D → Option (List D)
  | [.int i, .int j] => if (decide (-(2 ^ 62) ≤ i) && decide (i < 2 ^ 62)) && (decide (-(2 ^ 62) ≤ j) && decide (j < 2 ^ 62)) then some ((List.range (j - i).toNat).map fun k : Nat => .int (i + k)) else none
  | _ => none
/-- range(i, j, -1) -/
def rg3 : List D → Option (List D)
  | [.int i, .int j, .int c] => if decide (c = -1) && ((decide (-(2 ^ 62) ≤ i) && decide (i < 2 ^ 62)) && (decide (-(2 ^ 62) ≤ j) && decide (j < 2 ^ 62))) then some ((List.range (i - j).toNat).map fun k : Nat => .int (i - k)) else none
  | _ => none
def iBf (g : List D → Option (List D)) (ms : List EM) : AM := fun ρ => (aAll ms ρ).bind fun ds => R.of (g ds)
theorem range_get {n i : Nat} {f : Nat → D} {d : D} (h : ((List.range n).map f)[i]? = some d) : i < n ∧ d = f i := by
  have hi := (List.getElem?_eq_some_iff.mp h).1
  rw [List.length_map, List.length_range] at hi
  rw [List.getElem?_map, List.getElem?_range hi] at h
  cases h
  exact ⟨hi, rfl⟩
theorem itr_ok {K : KW} {mg : Str → Option Value} {F : Hp} (lo : Int) (n : Nat) : ItOk K mg F (Itr lo n) ((List.range n).map fun k : Nat => .int (lo + k)) := fun i F1 H1 s1 s2 => by
  refine ⟨fun d hd => ?_, fun hl => by rw [List.length_map, List.length_range] at hl; exact hl⟩
  obtain ⟨h1, h2⟩ := range_get hd
  subst h2
  refine ⟨h1, fun x H2 ⟨e1, e2⟩ => ?_⟩
  subst e1 e2
  exact ⟨F1, Ext.refl s2, .int _⟩
theorem im_range1 {p : Pos} (hg : Gl X "range") (hm : X.mg "range" = none) (ha : PAb X F0 H0 W [a] [ma]) (hs : starEach [a] X.env = [(false, eval a X.env)] := by rfl) : PIm X F0 H0 W tg (.Call (.Name "range" p) [a] [] pos) (iBf rg1 [ma]) := by
  refine PI.imp (pi_range1 hg hm ha hs) fun σ H R ⟨F, ρ, r, q⟩ => ?_
  refine ⟨F, ρ, r, q.bind.imp fun ds k F' H' vs x l => ?_⟩
  obtain ⟨z, e, k⟩ := k.of
  unfold rg1 at e
  split at e
  · split at e
    · rename_i j hc
      cases e
      obtain ⟨v, rfl, hv⟩ := l.one
      rw [hv.int]
      simp only [Bool.and_eq_true, decide_eq_true_eq] at hc
      have ok := itr_ok (K := X.kw) (mg := X.mg) (F := F') 0 j.toNat
      simp only [Int.zero_add] at ok
      exact ⟨j, rfl, hc.1, hc.2, k F' H' _ x ok⟩
    · cases e
  · cases e
theorem im_range2 {p : Pos} (hg : Gl X "range") (hm : X.mg "range" = none) (ha : PAb X F0 H0 W [a, b] [ma, mb]) (hs : starEach [a, b] X.env = [(false, eval a X.env), (false, eval b X.env)] := by rfl) (hs2 : starEach [b] X.env = [(false, eval b X.env)] := by rfl) : PIm X F0 H0 W tg (.Call (.Name "range" p) [a, b] [] pos) (iBf rg2 [ma, mb]) := by
  refine PI.imp (pi_range2 hg hm ha hs hs2) fun σ H R ⟨F, ρ, r, q⟩ => ?_
  refine ⟨F, ρ, r, q.bind.imp fun ds k F' H' vs x l => ?_⟩
  obtain ⟨z, e, k⟩ := k.of
  unfold rg2 at e
  split at e
  · split at e
    · rename_i i j hc
      cases e
      obtain ⟨v, w, rfl, hv, hw⟩ := l.two
      rw [hv.int, hw.int]
      simp only [Bool.and_eq_true, decide_eq_true_eq] at hc
      exact ⟨i, j, rfl, ⟨hc.1.1, hc.1.2, hc.2.1, hc.2.2⟩, k F' H' _ x (itr_ok i _)⟩
    · cases e
  · cases e
theorem im_range3 {p : Pos} (hg : Gl X "range") (hm : X.mg "range" = none) (ha : PAb X F0 H0 W [a, b, c] [ma, mb, mc])
    (hs : starEach [a, b, c] X.env = (false, eval a X.env) :: starEach [b, c] X.env := by rfl) (hpl : (backTo pos (starEach [b, c] X.env)).any (·.1) = false := by rfl) : PIm X F0 H0 W tg (.Call (.Name "range" p) [a, b, c] [] pos) (iBf rg3 [ma, mb, mc]) := by
  refine PI.imp (pi_range3 hg hm ha hs hpl) fun σ H R ⟨F, ρ, r, q⟩ => ?_
  refine ⟨F, ρ, r, q.bind.imp fun ds k F' H' vs x l => ?_⟩
  obtain ⟨z, e, kk⟩ := k.of
  unfold rg3 at e
  split at e
  · split at e
    · rename_i i j st hc
      cases e
      cases l with | cons h1 l => cases l with | cons h2 l => cases l with | cons h3 l =>
      cases l
      rw [h1.int, h2.int, h3.int]
      simp only [Bool.and_eq_true, decide_eq_true_eq] at hc
      obtain ⟨e1, ⟨c1, c2⟩, c3, c4⟩ := hc
      subst e1
      refine ⟨i, j, -1, (i - j).toNat, rfl, RgC.neg c1 c2 c3 c4, kk F' H' _ x fun n F1 H1 s1 s2 => ?_⟩
      refine ⟨fun d hd => ?_, fun hl => by rw [List.length_map, List.length_range] at hl; exact hl⟩
      obtain ⟨h1, h2⟩ := range_get hd
      subst h2
      refine ⟨h1, fun y H2 ⟨e1, e2⟩ => ?_⟩
      subst e1 e2
      exact ⟨F1, Ext.refl s2, by rw [show i + (n : Int) * -1 = i - n by omega]; exact .int _⟩
    · cases e
  · cases e

end

/-! ### targets -/
abbrev GM := Env → D → Option Env
/-- g stores into the slots at is -/
def GOk (K : KW) (mg : Str → Option Value) (F0 H0 : Hp) (g : TG) (is : List Nat) (gm : GM) : Prop := ∀ (F : Hp) (σ : St) (H : Hp) (ρ ρ1 : Env) (v : V) (d : D) (Q : St → Hp → Prop), Rel K mg F0 H0 F σ H ρ → Dat K mg F v d → gm ρ d = some ρ1 →
  (∀ σ', Rel K mg F0 H0 F σ' H ρ1 → (∀ own : List Nat, (∀ i ∈ is, i ∈ own) → wipe σ' own = wipe σ own) → Q σ' H) → g v σ H Q
def gOne (i : Nat) : GM := fun ρ d => some (ρ.set i (some (.val d)))
theorem wipe_set {σ : St} {i : Nat} {x : Option V} : ∀ {own : List Nat}, i ∈ own → wipe (σ.set i x) own = wipe σ own
  | [], h => by cases h
  | j :: own, h => by
    show (wipe (σ.set i x) own).set j none = (wipe σ own).set j none
    by_cases e : i ∈ own
    · rw [wipe_set e]
    · have ej : i = j := by
        rcases List.mem_cons.mp h with z | z
        · exact z
        · exact absurd z e
      subst ej
      apply List.ext_getElem?
      intro k
      by_cases hk : k = i
      · subst hk
        rw [List.getElem?_set, List.getElem?_set, wipe_length, wipe_length, List.length_set, if_pos rfl, if_pos rfl]
      · rw [List.getElem?_set_ne (Ne.symm hk), List.getElem?_set_ne (Ne.symm hk)]
        by_cases ho : k ∈ own
        · have gone : ∀ (τ : St) (l : List Nat), k ∈ l → k < τ.length → (wipe τ l)[k]? = some none := by
            intro τ l
            induction l with
            | nil => intro h; cases h
            | cons a r ih =>
              intro h hl
              show ((wipe τ r).set a none)[k]? = _
              by_cases z : a = k
              · subst z; exact List.getElem?_set_self (by rw [wipe_length]; exact hl)
              · rw [List.getElem?_set_ne z]
                exact ih ((List.mem_cons.mp h).resolve_left (Ne.symm z)) hl
          by_cases hl : k < σ.length
          · rw [gone _ _ ho (by rw [List.length_set]; exact hl), gone _ _ ho hl]
          · rw [List.getElem?_eq_none (by rw [wipe_length, List.length_set]; omega), List.getElem?_eq_none (by rw [wipe_length]; omega)]
        · rw [wipe_out ho, wipe_out ho, List.getElem?_set_ne (Ne.symm hk)]
section
variable {K : KW} {mg : Str → Option Value} {F0 H0 : Hp}
theorem gok_one (i : Nat) : GOk K mg F0 H0 (gName i) [i] (gOne i) := fun F σ H ρ ρ1 v d Q r q e k => by
  cases e
  exact k _ (r.put i q) fun own h => wipe_set (h i List.mem_cons_self)
def setAll (ρ : Env) : List Nat → List D → Env
  | i :: is, d :: ds => setAll (ρ.set i (some (.val d))) is ds
  | _, _ => ρ
def gTupM (is : List Nat) : GM := fun ρ d => match d with
  | .tup ds => if ds.length = is.length then some (setAll ρ is ds) else none
  | _ => none
def gsN : List Nat → TGs
  | [] => gNil
  | i :: is => gCons (gName i) (gsN is)
theorem gsN_ok : ∀ (is : List Nat) (F : Hp) (σ : St) (H : Hp) (ρ : Env) (vs : List V) (ds : List D) (Q : St → Hp → Prop), ds.length = is.length → Rel K mg F0 H0 F σ H ρ → DatL K mg F vs ds →
    (∀ σ', Rel K mg F0 H0 F σ' H (setAll ρ is ds) → (∀ own : List Nat, (∀ i ∈ is, i ∈ own) → wipe σ' own = wipe σ own) → Q σ' H) → gsN is vs σ H Q
  | [], F, σ, H, ρ, vs, ds, Q, hl, r, l, k => by
    cases ds with
    | nil => cases l; exact ⟨rfl, k σ r fun _ _ => rfl⟩
    | cons d ds => cases hl
  | i :: is, F, σ, H, ρ, vs, ds, Q, hl, r, l, k => by
    cases ds with
    | nil => cases hl
    | cons d ds =>
      cases l with
      | cons h l =>
        refine ⟨_, _, rfl, ?_⟩
        refine gsN_ok is F _ H _ _ ds Q (by simpa using hl) (r.put i h) l fun σ' r' w => k σ' r' fun own ho => ?_
        rw [w own fun j hj => ho j (List.mem_cons_of_mem _ hj), wipe_set (ho i List.mem_cons_self)]
theorem gok_tup (is : List Nat) {n : Nat} (hn : is.length = n := by rfl) : GOk K mg F0 H0 (gTup K n (gsN is)) is (gTupM is) := fun F σ H ρ ρ1 v d Q r q e k => by
  unfold gTupM at e
  split at e
  · split at e
    · rename_i ds hl
      cases e
      cases q with
      | @tup a xs _ h l => exact ⟨a, xs, rfl, SqT.of (r.fh _ _ h), by rw [l.len, hl, hn], gsN_ok is F σ H ρ xs ds Q hl r l k⟩
    · cases e
  · cases e
end

/-! ### comprehensions -/
def R.nx {α : Type} (r : R α) : R α := match r with
  | .ok a => .ok a
  | _ => .no
theorem Got.nx {mg : Str → Option Value} {W W0 : WX} {F H : Hp} {σ σ2 : St} {α β : Type} {r : R α} {f : α → R β} {k : β → Prop} (h : Got mg W F H σ (r.nx.bind f) k) : Got mg W0 F H σ2 r fun a => Got mg W F H σ (f a) k := by
  cases r with
  | ok a => exact h
  | ex c => exact False.elim h
  | no => exact False.elim h
/-- the items of a comprehension, the slots else being ρ -/
def compD (gm : GM) (p : TM) (me : EM) (ρ : Env) : List D → R (List D)
  | [] => .ok []
  | d :: ds => (R.of (gm ρ d)).bind fun ρ1 => (p ρ1).nx.bind fun b => if b then (me ρ1).nx.bind fun e => (compD gm p me ρ ds).bind fun es => .ok (e :: es) else compD gm p me ρ ds
def wipeE (ρ : Env) : List Nat → Env
  | [] => ρ
  | v :: vs => (wipeE ρ vs).set v none
def eLc (own : List Nat) (gm : GM) (mi : AM) (p : TM) (me : EM) : EM := fun ρ => (mi ρ).bind fun ds => if ds.length ≤ lim then (compD gm p me (wipeE ρ own) ds).bind fun es => .ok (.lst es) else .no
theorem wipeE_length (ρ : Env) : ∀ vs : List Nat, (wipeE ρ vs).length = ρ.length
  | [] => rfl
  | v :: vs => by unfold wipeE; rw [List.length_set, wipeE_length ρ vs]
theorem Rel.wipe {K : KW} {mg : Str → Option Value} {F0 H0 F H : Hp} {σ : St} {ρ : Env} (r : Rel K mg F0 H0 F σ H ρ) : ∀ vs : List Nat, Rel K mg F0 H0 F (L2.wipe σ vs) H (wipeE ρ vs)
  | [] => r
  | v :: vs => by
    have q := Rel.wipe r vs
    have kn : ∀ (j : Nat) (s : Sl), ((wipeE ρ vs).set v none)[j]? = some (some s) → j ≠ v ∧ (wipeE ρ vs)[j]? = some (some s) := fun j s e => by
      rw [List.getElem?_set] at e
      split at e
      · split at e <;> cases e
      · exact ⟨fun z => by simp_all, e⟩
    have ks : ∀ (j : Nat), j ≠ v → ((L2.wipe σ vs).set v none)[j]? = (L2.wipe σ vs)[j]? := fun j h => List.getElem?_set_ne (Ne.symm h)
    refine ⟨q.fh, q.f0, q.h0, q.nw, ?_, fun j s e => ?_, fun j d a e h => ?_, fun i j d e a ne h1 h2 h3 h4 => ?_⟩
    · show ((wipeE ρ vs).set v none).length = ((L2.wipe σ vs).set v none).length
      rw [List.length_set, List.length_set]; exact q.len
    · obtain ⟨h1, h2⟩ := kn j s e
      obtain ⟨w, hw, o⟩ := q.sl j s h2
      exact ⟨w, (ks j h1).trans hw, o⟩
    · obtain ⟨h1, h2⟩ := kn j _ e
      exact q.ow j d a h2 ((ks j h1).symm.trans h)
    · obtain ⟨n1, h1⟩ := kn i _ h1
      obtain ⟨n2, h2⟩ := kn j _ h2
      exact q.un i j d e a ne h1 h2 ((ks i n1).symm.trans h3) ((ks j n2).symm.trans h4)
theorem wipe_wipe (σ : St) : ∀ (own vs : List Nat), (∀ i ∈ own, i ∈ vs) → wipe (wipe σ own) vs = wipe σ vs
  | [], _, _ => rfl
  | v :: own, vs, h => by
    show wipe ((wipe σ own).set v none) vs = _
    rw [wipe_set (h v List.mem_cons_self), wipe_wipe σ own vs fun i hi => h i (List.mem_cons_of_mem _ hi)]
abbrev W0 : WX := fun _ _ _ _ => False
def PTsm (X : Cx) (F0 H0 : Hp) (ifs : List Expr) (p : TM) : Prop := PTs X ifs (tTm X.kw X.mg F0 H0 W0 p)
section
variable {X : Cx} {F0 H0 : Hp} {W : WX}
theorem PTs.imp {ifs : List Expr} {t t' : TT} (h : PTs X ifs t) (f : ∀ σ H Q, t' σ H Q → t σ H Q) : PTs X ifs t' := ⟨fun pins s σ H Q I q => h.run pins s σ H Q I (f σ H Q q)⟩
def pYes : TM := fun _ => .ok true
theorem tsm_nil : PTsm X F0 H0 [] pYes := PTs.imp pts_nil fun σ H Q ⟨F, ρ, r, g⟩ => g F H (Ext.refl r.fh)
theorem tsm_one {c : Expr} {p : TM} (h : PTm X F0 H0 W0 c p) : PTsm X F0 H0 [c] p := pts_one h
variable {K : KW} {mg : Str → Option Value}
/-- the reading of a comprehension -/
theorem lc_read {wi : TI} {g : TG} {own : List Nat} {gm : GM} {p : TM} {me : EM} {mi : AM} (hw : ∀ σ H R, tIm K mg F0 H0 W mi σ H R → wi σ H R) (gok : GOk K mg F0 H0 g own gm) :
    ∀ σ H Q, tEf K mg F0 H0 W (eLc own gm mi p me) σ H Q → tLc wi g (tTm K mg F0 H0 W0 p) (tE K mg F0 H0 W0 me) own σ H Q := by
  rintro σ H Q ⟨F, ρ, r, q⟩
  refine hw σ H _ ⟨F, ρ, r, q.bind.imp fun ds k F1 H1 J x1 ok L nD => ?_⟩
  by_cases hl : ds.length ≤ lim
  case neg => rw [if_neg hl] at k; exact False.elim k
  rw [if_pos hl] at k
  have r1 := r.ext x1
  have nF1 : F1 L = none := r1.fh.free nD
  have k1 : Got mg W F1 H1 σ (compD gm p me (wipeE ρ own) ds) fun es => ∀ F' H', Ext F1 H1 F' H' → F' L = none → OwnAt K mg F' H' L (.lst es) → Q (.ref L) H' :=
    ((k.bind).move x1).imp fun es z F' H' x2 n o => z F' H' L (x1.trans x2) n (x1.hh.free nD) o
  refine ⟨fun i m H => i ≤ ds.length ∧ m = ds.length - i ∧ ∃ F2 acc accD, Ext F1 H1 F2 H ∧ H L = some (.lst acc) ∧ DatL K mg F2 acc accD ∧ acc.length ≤ i ∧ F2 L = none ∧
    Got mg W F1 H1 σ (compD gm p me (wipeE ρ own) (ds.drop i)) (fun es => ∀ F' H', Ext F1 H1 F' H' → F' L = none → OwnAt K mg F' H' L (.lst (accD ++ es)) → Q (.ref L) H'), ⟨ds.length, Nat.zero_le _, rfl, F1, [], [], ⟨Same.refl _, r1.fh.trans (same_upd nD), same_upd nD, fun a o e n => by rw [n] at e; cases e⟩, upd_same, .nil, Nat.le_refl _, nF1, ?_⟩, ?_⟩
  · exact k1
  rintro i m H2 ⟨hi, rfl, F2, acc, accD, x2, hD, l, hal, nF2, k2⟩
  obtain ⟨okg, oks⟩ := ok i F2 H2 x2.ff x2.fh
  by_cases hlt : i < ds.length
  · right
    obtain ⟨go, yl⟩ := okg ds[i] (List.getElem?_eq_getElem hlt)
    rw [List.drop_eq_getElem_cons hlt] at k2
    have k3 : Got mg W F1 H1 σ ((R.of (gm (wipeE ρ own) ds[i])).bind fun ρ1 => (p ρ1).nx.bind fun b => if b then (me ρ1).nx.bind fun e => (compD gm p me (wipeE ρ own) (ds.drop (i + 1))).bind fun es => .ok (e :: es) else compD gm p me (wipeE ρ own) (ds.drop (i + 1))) (fun es => ∀ F' H', Ext F1 H1 F' H' → F' L = none → OwnAt K mg F' H' L (.lst (accD ++ es)) → Q (.ref L) H') := k2
    obtain ⟨ρ1, eg, k4⟩ := k3.bind.of
    refine ⟨go, fun H => ∃ F2 acc accD, Ext F1 H1 F2 H ∧ H L = some (.lst acc) ∧ DatL K mg F2 acc accD ∧ acc.length ≤ i + 1 ∧ F2 L = none ∧
      Got mg W F1 H1 σ (compD gm p me (wipeE ρ own) (ds.drop (i + 1))) (fun es => ∀ F' H', Ext F1 H1 F' H' → F' L = none → OwnAt K mg F' H' L (.lst (accD ++ es)) → Q (.ref L) H'), fun H' n => ⟨_, by omega, by omega, rfl, n⟩, fun v H3 y => ?_⟩
    obtain ⟨F3, x3, dv⟩ := yl v H3 y
    have r3 : Rel K mg F0 H0 F3 (wipe σ own) H3 (wipeE ρ own) := ((r1.ext x2).ext x3).wipe own
    have nF3 : F3 L = none := x3.own nF2 hD trivial
    refine gok F3 _ H3 _ ρ1 v _ _ r3 dv eg fun σ2 r4 w => ⟨?_, ?_⟩
    · rw [w own fun _ h => h, wipe_wipe σ own own fun _ h => h]
    refine ⟨F3, ρ1, r4, (k4.nx (W0 := W0) (σ2 := σ2)).move (x2.trans x3) |>.imp fun b k5 F4 H4 x4 => ?_⟩
    cases b with
    | true =>
      rw [if_pos rfl] at k5 ⊢
      refine ⟨F4, ρ1, r4.ext x4, (k5.nx (W0 := W0) (σ2 := σ2)).move (x2.trans (x3.trans x4)) |>.imp fun e k6 F5 H5 u x5 du => ?_⟩
      have hD5 : H5 L = some (.lst acc) := x5.hh _ _ (x4.hh _ _ (x3.hh _ _ hD))
      have nF5 : F5 L = none := x5.own (x4.own nF3 (x3.hh _ _ hD) trivial) (x4.hh _ _ (x3.hh _ _ hD)) trivial
      have x15 := x2.trans (x3.trans (x4.trans x5))
      have nH1 : H1 L = none := nD
      have x16 : Ext F1 H1 F5 (upd H5 L (.lst (acc ++ [u]))) := ⟨x15.ff, fun c w hc => by rw [upd_ne (ne_of_none hc nF5)]; exact x15.fh c w hc, fun c w hc => by rw [upd_ne (ne_of_none hc nH1)]; exact x15.hh c w hc, x15.nw⟩
      refine ⟨acc, hD5, lim_lt (by omega), F5, acc ++ [u], accD ++ [e], x16, upd_same, (l.mono (x3.ff.trans (x4.ff.trans x5.ff))).snoc du, by rw [List.length_append]; show acc.length + 1 ≤ i + 1; omega, nF5, ?_⟩
      refine (k6.bind).imp fun es z F' H' x n o => ?_
      have z' : ∀ F' H', Ext F1 H1 F' H' → F' L = none → OwnAt K mg F' H' L (.lst (accD ++ (e :: es))) → Q (.ref L) H' := z
      refine z' F' H' x n ?_
      rw [List.append_assoc] at o
      exact o
    | false =>
      rw [if_neg Bool.false_ne_true] at k5 ⊢
      exact ⟨F4, acc, accD, x2.trans (x3.trans x4), x4.hh _ _ (x3.hh _ _ hD), l.mono (x3.ff.trans x4.ff), by omega, x4.own nF3 (x3.hh _ _ hD) trivial, k5⟩
  · left
    have e : i = ds.length := by omega
    subst e
    refine ⟨oks (Nat.le_refl _), ?_⟩
    rw [List.drop_length] at k2
    have k3 : ∀ F' H', Ext F1 H1 F' H' → F' L = none → OwnAt K mg F' H' L (.lst (accD ++ [])) → Q (.ref L) H' := k2
    rw [List.append_nil] at k3
    exact k3 F2 H2 x2 nF2 ⟨acc, hD, l⟩
end
end L2.Pv

set_option Elab.async false
set_option linter.all false
set_option maxRecDepth 100000
set_option maxHeartbeats 4000000
set_option autoImplicit false
/-! Statements. -/
namespace L2.Pv
open PySem PySem.Spec PyProof.Rows

section
variable {X : Cx} {F0 H0 : Hp} {W : WX}
theorem fm_lc {elt tg iter : Expr} {ifs : List Expr} {scope : Scope} {own : List (Str × Nat)} {pos : Pos} {g : TG} {gm : GM} {p : TM} {me : EM} {mi : AM} (hc : X.calm = true) (hN : X.N.Nodup) (hi : PIm X F0 H0 W tg iter mi) (ok : BlkOk X.N X.env.scope scope own)
    (gok : GOk X.kw X.mg F0 H0 g (own.map (·.2)) gm)
    (hg : ∀ (s : Shared) (H : Hp) (C : Addr) (cl : List (Str × Addr)) (fp : List Addr), PG (X.blk s H scope (compEnvC scope cl C X.env) fp) tg g) (ht : ∀ (s : Shared) (H : Hp) (C : Addr) (cl : List (Str × Addr)) (fp : List Addr), PTsm (X.blk s H scope (compEnvC scope cl C X.env) fp) F0 H0 ifs p)
    (he : ∀ (s : Shared) (H : Hp) (C : Addr) (cl : List (Str × Addr)) (fp : List Addr), PEm (X.blk s H scope (compEnvC scope cl C X.env) fp) F0 H0 W0 elt me) (hs : ∀ x, foldedSetIterable iter X.env x = pure x := by intro _; rfl) :
    PFm X F0 H0 W (.ListComp elt [⟨tg, iter, ifs, 0⟩] scope pos) (eLc (own.map (·.2)) gm mi p me) :=
  PE.imp (pe_lc (tt := tTm X.kw X.mg F0 H0 W0 p) (te := tE X.kw X.mg F0 H0 W0 me) hc hN hi ok hg ht he hs) (lc_read (fun _ _ _ z => z) gok)
end

/-- what a statement comes to -/
inductive Out where
  | nx (ρ : Env) | rt (d : D) | bk (ρ : Env) | ct (ρ : Env) | rs (c : Str) (ρ : Env) | no
abbrev SM := Env → Out
section
variable (K : KW) (mg : Str → Option Value) (F0 H0 : Hp) (W : WX)
def OutOk (D : Ends) : Out → Prop
  | .nx ρ => ∀ F σ H, Rel K mg F0 H0 F σ H ρ → D.nx σ H
  | .rt d => ∀ F H v, Ext F0 H0 F H → Dat K mg F v d → D.rt v H
  | .bk ρ => ∀ F σ H, Rel K mg F0 H0 F σ H ρ → D.bk σ H
  | .ct ρ => ∀ F σ H, Rel K mg F0 H0 F σ H ρ → D.ct σ H
  | .rs c ρ => ∀ F σ H C, Rel K mg F0 H0 F σ H ρ → mg c = some (Value.ref C) → W (.ref C) none σ H
  | .no => False
def tSm (m : SM) : TS := fun D σ H => ∃ F ρ, Rel K mg F0 H0 F σ H ρ ∧ OutOk K mg F0 H0 W D (m ρ)
end
def PSm (X : Cx) (F0 H0 : Hp) (W : WX) (st : Stmt) (m : SM) : Prop := PS X st (tSm X.kw X.mg F0 H0 W m)
def PSsm (X : Cx) (F0 H0 : Hp) (W : WX) (st : List Stmt) (m : SM) : Prop := PSs X st (tSm X.kw X.mg F0 H0 W m)
/-- a value on the way of a statement -/
def R.out {α : Type} (r : R α) (ρ : Env) (k : α → Out) : Out := match r with
  | .ok a => k a
  | .ex c => .rs c ρ
  | .no => .no
@[simp] theorem R.ok_out {α : Type} (a : α) (ρ : Env) (k : α → Out) : (R.ok a).out ρ k = k a := nr rfl
@[simp] theorem R.ex_out {α : Type} (c : Str) (ρ : Env) (k : α → Out) : (R.ex c : R α).out ρ k = .rs c ρ := nr rfl
@[simp] theorem R.no_out {α : Type} (ρ : Env) (k : α → Out) : (R.no : R α).out ρ k = .no := nr rfl
def Out.seq (o : Out) (n : SM) : Out := match o with
  | .nx ρ => n ρ
  | o => o
section
variable {K : KW} {mg : Str → Option Value} {F0 H0 F H : Hp} {W : WX} {σ : St} {ρ : Env} {D : Ends}
theorem OutOk.got {α : Type} {r : R α} {k : α → Out} (rel : Rel K mg F0 H0 F σ H ρ) (h : OutOk K mg F0 H0 W D (r.out ρ k)) : Got mg W F H σ r fun a => OutOk K mg F0 H0 W D (k a) := by
  cases r with
  | ok a => exact h
  | ex c => exact fun F' H' C x e => h F' σ H' C (rel.ext x) e
  | no => exact h
end
section
variable {X : Cx} {F0 H0 : Hp} {W : WX} {st : Stmt} {rest : List Stmt} {m n : SM} {e a b : Expr} {me ma mb : EM} {pos : Pos}
theorem PS.imp {t t' : TS} (h : PS X st t) (f : ∀ D σ H, t' D σ H → t D σ H) : PS X st t' := ⟨fun pins s σ H D I q => h.run pins s σ H D I (f D σ H q)⟩
theorem PSs.imp {t t' : TS} (h : PSs X rest t) (f : ∀ D σ H, t' D σ H → t D σ H) : PSs X rest t' := ⟨fun pins s σ H D I q => h.run pins s σ H D I (f D σ H q)⟩
def sSeq (m n : SM) : SM := fun ρ => (m ρ).seq n
theorem sm_nil : PSsm X F0 H0 W [] (fun ρ => .nx ρ) := PSs.imp pss_nil fun D σ H ⟨F, ρ, r, h⟩ => h F σ H r
theorem sm_cons (h1 : PSm X F0 H0 W st m) (h2 : PSsm X F0 H0 W rest n) : PSsm X F0 H0 W (st :: rest) (sSeq m n) := by
  refine PSs.imp (pss_cons h1 h2) fun D σ H ⟨F, ρ, r, h⟩ => ⟨F, ρ, r, ?_⟩
  unfold sSeq at h
  cases q : m ρ with
  | nx ρ1 => rw [q] at h; exact fun F' σ' H' r' => ⟨F', ρ1, r', h⟩
  | rt d => rw [q] at h; exact h
  | bk ρ1 => rw [q] at h; exact h
  | ct ρ1 => rw [q] at h; exact h
  | rs c ρ1 => rw [q] at h; exact h
  | no => rw [q] at h; exact h
theorem sm_one (h1 : PSm X F0 H0 W st m) : PSsm X F0 H0 W [st] m := pss_one h1
/-- slots forgotten -/
def fgs (is : List Nat) (ρ : Env) : Env := is.foldl (fun ρ i => ρ.set i none) ρ
theorem Rel.fgs {K : KW} {mg : Str → Option Value} {F H : Hp} {σ : St} : ∀ (is : List Nat) {ρ : Env}, Rel K mg F0 H0 F σ H ρ → Rel K mg F0 H0 F σ H (Pv.fgs is ρ)
  | [], _, r => r
  | i :: is, _, r => Rel.fgs is (r.forget i)
/-- a slot frozen -/
def fz (i : Nat) (ρ : Env) : Env := match ρ[i]? with
  | some (some (.own d)) => ρ.set i (some (.val d))
  | _ => ρ
def sFz (i : Nat) (m : SM) : SM := fun ρ => m (fz i ρ)
theorem sm_fz (i : Nat) (h : PSm X F0 H0 W st m) : PSm X F0 H0 W st (sFz i m) := by
  refine ⟨fun pins s σ H D I ⟨F, ρ, r, q⟩ => ?_⟩
  unfold sFz fz at q
  split at q
  · rename_i d e
    obtain ⟨a, u, hu, mu, _, _, _, _, k⟩ := r.freeze e
    obtain ⟨ob, I2⟩ := Inv.frozen I hu mu
    obtain ⟨_, r'⟩ := k ob
    exact h.run pins s σ _ D I2 ⟨_, _, r', q⟩
  · exact h.run pins s σ H D I ⟨F, ρ, r, q⟩
def sRet (m : EM) : SM := fun ρ => (m ρ).out ρ .rt
theorem sm_ret (he : PEm X F0 H0 W e me) : PSm X F0 H0 W (.Return (some e) pos) (sRet me) := by
  refine PS.imp (ps_ret he) fun D σ H ⟨F, ρ, r, h⟩ => ⟨F, ρ, r, (OutOk.got r h).imp fun d k F' H' v x q => k F' H' v (r.toExt.trans x) q⟩
theorem sm_retN : PSm X F0 H0 W (.Return none pos) (fun _ => .rt .non) := PS.imp ps_retN fun D σ H ⟨F, ρ, r, h⟩ => h F H _ r.toExt .non
theorem sm_pass : PSm X F0 H0 W (.Pass pos) (fun ρ => .nx ρ) := PS.imp ps_pass fun D σ H ⟨F, ρ, r, h⟩ => h F σ H r
theorem sm_break : PSm X F0 H0 W (.Break pos) (fun ρ => .bk ρ) := PS.imp ps_break fun D σ H ⟨F, ρ, r, h⟩ => h F σ H r
theorem sm_continue : PSm X F0 H0 W (.Continue pos) (fun ρ => .ct ρ) := PS.imp ps_continue fun D σ H ⟨F, ρ, r, h⟩ => h F σ H r
theorem sm_doc {x : Str} {j : Nat} {p2 : Pos} : PSm X F0 H0 W (.Expr (.Constant (.str x) j p2) pos) (fun ρ => .nx ρ) := PS.imp ps_doc fun D σ H ⟨F, ρ, r, h⟩ => h F σ H r
def sExpr (m : EM) : SM := fun ρ => (m ρ).out ρ fun _ => .nx ρ
theorem sm_expr (he : PEm X F0 H0 W e me) (hs : swapsWith e none pos.line X.env = pure false := by rfl) : PSm X F0 H0 W (.Expr e pos) (sExpr me) :=
  PS.imp (ps_expr he hs) fun D σ H ⟨F, ρ, r, h⟩ => ⟨F, ρ, r, (OutOk.got r h).imp fun d k F' H' v x q => k F' σ H' (r.ext x)⟩
def sIf (p : TM) (m n : SM) : SM := fun ρ => (p ρ).out ρ fun b => if b then m ρ else n ρ
theorem sm_if {p : TM} {xs ys : List Stmt} (hc : PTm X F0 H0 W e p) (h1 : PSsm X F0 H0 W xs m) (h2 : PSsm X F0 H0 W ys n) : PSm X F0 H0 W (.If e xs ys pos) (sIf p m n) := by
  refine PS.imp (ps_if hc h1 h2) fun D σ H ⟨F, ρ, r, h⟩ => ⟨F, ρ, r, (OutOk.got r h).imp fun b k F' H' x => ?_⟩
  cases b with
  | true => rw [if_pos rfl]; exact ⟨F', ρ, r.ext x, k⟩
  | false => rw [if_neg Bool.false_ne_true]; exact ⟨F', ρ, r.ext x, k⟩
def sSet (i : Nat) (m : EM) : SM := fun ρ => (m ρ).out ρ fun d => .nx (ρ.set i (some (.val d)))
def sSetF (i : Nat) (m : EM) : SM := fun ρ => (m ρ).out ρ fun d => .nx (ρ.set i (some (.own d)))
theorem asg_read {te : TE} {i : Nat} (h : ∀ σ H Q, tE X.kw X.mg F0 H0 W me σ H Q → te σ H Q) : ∀ D σ H, tSm X.kw X.mg F0 H0 W (sSet i me) D σ H → tAsg te (gName i) D σ H := fun D σ H ⟨F, ρ, r, q⟩ =>
  h σ H _ ⟨F, ρ, r, (OutOk.got r q).imp fun d k F' H' v x z => k F' _ H' ((r.ext x).put i z)⟩
theorem asgF_read {te : TE} {i : Nat} (h : ∀ σ H Q, tEf X.kw X.mg F0 H0 W me σ H Q → te σ H Q) : ∀ D σ H, tSm X.kw X.mg F0 H0 W (sSetF i me) D σ H → tAsg te (gName i) D σ H := fun D σ H ⟨F, ρ, r, q⟩ =>
  h σ H _ ⟨F, ρ, r, (OutOk.got r q).imp fun d k F' H' a x n n0 o => k F' _ H' ((r.ext x).putOwn i o n (r.h0.free n0) fun j e _ h1 h2 => by
    obtain ⟨v, hv, b, hb, _, o'⟩ := r.sl j _ h1
    obtain ⟨u, hu, _⟩ := o'.some
    rw [h2] at hv
    cases hv; cases hb
    rw [n0] at hu; cases hu)⟩
theorem sm_set {i : Nat} {x : Str} {p2 : Pos} (hN : X.N.Nodup) (hi : X.N[i]? = some x) (hx : Loc X.env.scope x) (he : PEm X F0 H0 W e me) (hs : swapsWith e (some (.Name x p2)) pos.line X.env = pure false := by rfl) (hf : X.fn x = true ∨ X.env.scope.names.lookup x = some .local := by first | exact .inl rfl | exact .inr rfl | assumption) :
    PSm X F0 H0 W (.Assign [.Name x p2] e pos) (sSet i me) := PS.imp (ps_set hN hi hx he hs hf) (asg_read fun _ _ _ z => z)
theorem sm_setF {i : Nat} {x : Str} {p2 : Pos} (hN : X.N.Nodup) (hi : X.N[i]? = some x) (hx : Loc X.env.scope x) (he : PFm X F0 H0 W e me) (hs : swapsWith e (some (.Name x p2)) pos.line X.env = pure false := by rfl) (hf : X.fn x = true ∨ X.env.scope.names.lookup x = some .local := by first | exact .inl rfl | exact .inr rfl | assumption) :
    PSm X F0 H0 W (.Assign [.Name x p2] e pos) (sSetF i me) := PS.imp (ps_set hN hi hx he hs hf) (asgF_read fun _ _ _ z => z)
/-- a comprehension gives a list: frozen at once -/
theorem lc_em {own : List Nat} {gm : GM} {p : TM} {mi : AM} {K : KW} {mg : Str → Option Value} : ∀ σ H Q, tE K mg F0 H0 W (eLc own gm mi p me) σ H Q → tEf K mg F0 H0 W (eLc own gm mi p me) σ H Q := by
  rintro σ H Q ⟨F, ρ, r, q⟩
  refine ⟨F, ρ, r, ?_⟩
  have isl : ∀ d, eLc own gm mi p me ρ = .ok d → ∃ ds, d = .lst ds := fun d h => by
    unfold eLc at h
    cases h1 : mi ρ with
    | ok ds =>
      rw [h1, R.ok_bind] at h
      split at h
      · cases h2 : compD gm p me (wipeE ρ own) ds with
        | ok es => rw [h2, R.ok_bind] at h; cases h; exact ⟨es, rfl⟩
        | ex c => rw [h2] at h; cases h
        | no => rw [h2] at h; cases h
      · cases h
    | ex c => rw [h1] at h; cases h
    | no => rw [h1] at h; cases h
  cases z : eLc own gm mi p me ρ with
  | ok d =>
    rw [z] at q
    obtain ⟨ds, rfl⟩ := isl d z
    intro F' H' a x n n0 ⟨vs, hu, l⟩
    refine q (upd F' a (.lst vs)) H' (.ref a) ⟨x.ff.trans (same_upd n), fun c w hc => ?_, x.hh, fun c w hc hn => ?_⟩ (.lst upd_same (l.mono (same_upd n)))
    · by_cases q : c = a
      · subst q; rw [upd_same] at hc; cases hc; exact hu
      · rw [upd_ne q] at hc; exact x.fh c w hc
    · by_cases q : c = a
      · subst q; exact .inl n0
      · rw [upd_ne q] at hc; exact x.nw c w hc hn
  | ex c => rw [z] at q; exact q
  | no => rw [z] at q; exact q
theorem sm_setLcF {i : Nat} {y : Str} {py : Pos} {elt tg iter : Expr} {ifs : List Expr} {scope : Scope} {own : List (Str × Nat)} {pos spos : Pos} {g : TG} {gm : GM} {p : TM} {mi : AM} (hc : X.calm = true) (hN : X.N.Nodup) (hy : X.N[i]? = some y) (hyl : X.env.scope.names.lookup y = some .local)
    (hsw : swapsWith (.ListComp elt [⟨tg, iter, ifs, 0⟩] scope pos) (some (.Name y py)) spos.line X.env = pure true) (hi : PIm X F0 H0 W tg iter mi) (ok : BlkOk X.N X.env.scope scope own) (gok : GOk X.kw X.mg F0 H0 g (own.map (·.2)) gm)
    (hg : ∀ (s : Shared) (H : Hp) (C : Addr) (cl : List (Str × Addr)) (fp : List Addr), PG (X.blk s H scope (compEnvC scope cl C X.env) fp) tg g) (ht : ∀ (s : Shared) (H : Hp) (C : Addr) (cl : List (Str × Addr)) (fp : List Addr), PTsm (X.blk s H scope (compEnvC scope cl C X.env) fp) F0 H0 ifs p)
    (he : ∀ (s : Shared) (H : Hp) (C : Addr) (cl : List (Str × Addr)) (fp : List Addr), PEm (X.blk s H scope (compEnvC scope cl C X.env) fp) F0 H0 W0 elt me) (hs : ∀ x, foldedSetIterable iter X.env x = pure x := by intro _; rfl) :
    PSm X F0 H0 W (.Assign [.Name y py] (.ListComp elt [⟨tg, iter, ifs, 0⟩] scope pos) spos) (sSetF i (eLc (own.map (·.2)) gm mi p me)) :=
  PS.imp (ps_setLc (tt := tTm X.kw X.mg F0 H0 W0 p) (te := tE X.kw X.mg F0 H0 W0 me) hc hN hy hyl hsw hi ok hg ht he hs) (asgF_read (lc_read (fun _ _ _ z => z) gok))
theorem sm_setLc {i : Nat} {y : Str} {py : Pos} {elt tg iter : Expr} {ifs : List Expr} {scope : Scope} {own : List (Str × Nat)} {pos spos : Pos} {g : TG} {gm : GM} {p : TM} {mi : AM} (hc : X.calm = true) (hN : X.N.Nodup) (hy : X.N[i]? = some y) (hyl : X.env.scope.names.lookup y = some .local)
    (hsw : swapsWith (.ListComp elt [⟨tg, iter, ifs, 0⟩] scope pos) (some (.Name y py)) spos.line X.env = pure true) (hi : PIm X F0 H0 W tg iter mi) (ok : BlkOk X.N X.env.scope scope own) (gok : GOk X.kw X.mg F0 H0 g (own.map (·.2)) gm)
    (hg : ∀ (s : Shared) (H : Hp) (C : Addr) (cl : List (Str × Addr)) (fp : List Addr), PG (X.blk s H scope (compEnvC scope cl C X.env) fp) tg g) (ht : ∀ (s : Shared) (H : Hp) (C : Addr) (cl : List (Str × Addr)) (fp : List Addr), PTsm (X.blk s H scope (compEnvC scope cl C X.env) fp) F0 H0 ifs p)
    (he : ∀ (s : Shared) (H : Hp) (C : Addr) (cl : List (Str × Addr)) (fp : List Addr), PEm (X.blk s H scope (compEnvC scope cl C X.env) fp) F0 H0 W0 elt me) (hs : ∀ x, foldedSetIterable iter X.env x = pure x := by intro _; rfl) :
    PSm X F0 H0 W (.Assign [.Name y py] (.ListComp elt [⟨tg, iter, ifs, 0⟩] scope pos) spos) (sSet i (eLc (own.map (·.2)) gm mi p me)) :=
  PS.imp (ps_setLc (tt := tTm X.kw X.mg F0 H0 W0 p) (te := tE X.kw X.mg F0 H0 W0 me) hc hN hy hyl hsw hi ok hg ht he hs) (asg_read fun σ H Q z => lc_read (fun _ _ _ z => z) gok σ H Q (lc_em σ H Q z))

/-! ### targets of several names, o[i] = e, += -/
def sAsg (gm : GM) (m : EM) : SM := fun ρ => (m ρ).out ρ fun d => match gm ρ d with
  | some ρ1 => .nx ρ1
  | none => .no
theorem sm_asg {tg : Expr} {g : TG} {is : List Nat} {gm : GM} (he : PEm X F0 H0 W e me) (gok : GOk X.kw X.mg F0 H0 g is gm) (hg : PG X tg g) (hs : swapsWithSole [tg] e pos.line X.env = pure false := by rfl) (hw : swappedStores [tg] e X.env = pure none := by rfl)
    (h1 : (assignEach [tg] X.env).map (·.2) = [assign tg X.env] := by rfl) : PSm X F0 H0 W (.Assign [tg] e pos) (sAsg gm me) := by
  refine PS.imp (ps_asg he hg hs hw h1) fun D σ H ⟨F, ρ, r, h⟩ => ⟨F, ρ, r, (OutOk.got r h).imp fun d k F' H' v x q => ?_⟩
  cases z : gm ρ d with
  | none => rw [z] at k; exact False.elim k
  | some ρ1 =>
    rw [z] at k
    exact gok F' σ H' ρ ρ1 v d _ (r.ext x) q z fun σ' r' _ => k F' σ' H' r'
/-- a, b = x, y -/
def sPar2 (i j : Nat) (ma mb : EM) : SM := fun ρ => (aAll [ma, mb] ρ).out ρ fun ds => match ds with
  | [x, y] => .nx ((ρ.set i (some (.val x))).set j (some (.val y)))
  | _ => .no
theorem sm_par2 {i j : Nat} {x y : Str} {px py pt : Pos} {kt k2 : Nat} {pt2 : Pos} (hc : X.calm = true) (hN : X.N.Nodup) (hi : X.N[i]? = some x) (hj : X.N[j]? = some y) (hij : i ≠ j)
    (hx : X.env.scope.names.lookup x = some .local) (hy : X.env.scope.names.lookup y = some .local) (ha : PAm X F0 H0 W [a, b] [ma, mb])
    (hw : swappedStores [.Tuple [.Name x px, .Name y py] kt pt] (.Tuple [a, b] k2 pt2) X.env = pure (some [x, y]))
    (hs : swapsWithSole [.Tuple [.Name x px, .Name y py] kt pt] (.Tuple [a, b] k2 pt2) pos.line X.env = pure false := by rfl) :
    PSm X F0 H0 W (.Assign [.Tuple [.Name x px, .Name y py] kt pt] (.Tuple [a, b] k2 pt2) pos) (sPar2 i j ma mb) := by
  refine PS.imp (ps_par hc hN hi hj hij hx hy ha hw hs) fun D σ H ⟨F, ρ, r, h⟩ => ⟨F, ρ, r, (OutOk.got r h).imp fun ds k F' H' vs x l => ?_⟩
  split at k
  · cases l with | cons h1 l => cases l with | cons h2 l =>
    cases l
    exact ⟨_, _, rfl, k F' _ H' (((r.ext x).put i h1).put j h2)⟩
  · exact False.elim k
/-- raise X('..') -/
theorem sm_raise {x t : Str} {j : Nat} {p1 p2 p3 : Pos} {C : Addr} (hc : X.calm = true) (tk : Takes X W) (q : PySem.W.excIn X.K C He.veBase "ValueError.__new__" = true) (gC : X.mg x = some (.ref C)) (kC : PySem.W.keepIn X.K (.ref C) = true) (rz : Raises X (.ref C)) (hg : Gl X x)
    (hdb : (x == ("__debug__" : Str)) = false := by decide) : PSm X F0 H0 W (.Raise (some (.Call (.Name x p1) [.Constant (.str t) j p2] [] p3)) none pos) (fun ρ => .rs x ρ) :=
  PS.imp (ps_raise hc tk (pmk_own PySem.F.excBase_ValueError q gC kC rz hg hdb)) fun D σ H ⟨F, ρ, r, h⟩ => h F σ H C r gC

/-! ### for, while -/
def forD (junk : List Nat) (gm : GM) (body : SM) : List D → SM
  | [], ρ => .nx ρ
  | d :: ds, ρ => match gm ρ d with
    | none => .no
    | some ρ1 => match body ρ1 with
      | .nx ρ2 => forD junk gm body ds (fgs junk ρ2)
      | .ct ρ2 => forD junk gm body ds (fgs junk ρ2)
      | .bk ρ2 => .nx (fgs junk ρ2)
      | o => o
def sFor (junk : List Nat) (gm : GM) (mi : AM) (body : SM) : SM := fun ρ => (mi ρ).out ρ fun ds => forD junk gm body ds (fgs junk ρ)
theorem Rel.up {K : KW} {mg : Str → Option Value} {F F1 H : Hp} {σ : St} {ρ : Env} (r : Rel K mg F0 H0 F σ H ρ) (s0 : Same F0 F1) (s : Same F1 F) : Rel K mg F1 H0 F σ H ρ :=
  ⟨r.fh, s, r.h0, fun a o e n => r.nw a o e (s0.free n), r.len, r.sl, r.ow, r.un⟩
theorem nw_down {F F1 H : Hp} (x : Ext F0 H0 F1 H) (s : Same F1 F) (nw : ∀ a o, F a = some o → F1 a = none → H0 a = none ∨ ∃ xs, o = .tup xs) : ∀ a o, F a = some o → F0 a = none → H0 a = none ∨ ∃ xs, o = .tup xs := fun a o e n => by
  cases q : F1 a with
  | none => exact nw a o e q
  | some u =>
    have z := s a u q
    rw [e] at z; cases z
    exact x.nw a _ q n
theorem Rel.down {K : KW} {mg : Str → Option Value} {F F1 H H1 : Hp} {σ : St} {ρ : Env} (r : Rel K mg F1 H0 F σ H ρ) (x : Ext F0 H0 F1 H1) : Rel K mg F0 H0 F σ H ρ :=
  ⟨r.fh, x.ff.trans r.f0, r.h0, nw_down x r.f0 r.nw, r.len, r.sl, r.ow, r.un⟩
theorem Ext.down {F F1 H H1 : Hp} (r : Ext F1 H0 F H) (x : Ext F0 H0 F1 H1) : Ext F0 H0 F H := ⟨x.ff.trans r.ff, r.fh, r.hh, nw_down x r.ff r.nw⟩
theorem sm_for {tg iter : Expr} {body : List Stmt} {g : TG} {is junk : List Nat} {gm : GM} {mi : AM} (hp : PassesOwn (model X.prog X.w) X.A X.env X.xe) (hc : X.calm = true) (hi : PIm X F0 H0 W tg iter mi) (gok : GOk X.kw X.mg F0 H0 g is gm) (hg : PG X tg g) (hb : ∀ F0, PSsm X F0 H0 W body m)
    (hs : ∀ x, foldedSetIterable iter X.env x = pure x := by intro _; rfl) : PSm X F0 H0 W (.For tg iter body [] pos) (sFor junk gm mi m) := by
  refine ⟨fun pins s σ H D I ⟨F, ρ, r, h⟩ => ?_⟩
  -- the items stand frozen through the loop: the body is run over them
  have hb' : PSs X body fun D σ H => ∃ F1, tSm X.kw X.mg F1 H0 W m D σ H := ⟨fun pins s σ H D I ⟨F1, q⟩ => (hb F1).run pins s σ H D I q⟩
  refine (ps_for hp hc hi hg hb' hs).run pins s σ H D I ⟨F, ρ, r, (OutOk.got r h).imp fun ds k F1 H1 J x ok => ?_⟩
  refine ⟨fun i n σ H => i ≤ ds.length ∧ n = ds.length - i ∧ ∃ F2 ρ2, Same F1 F2 ∧ Rel X.kw X.mg F0 H0 F2 σ H ρ2 ∧ OutOk X.kw X.mg F0 H0 W D (forD junk gm m (ds.drop i) ρ2), ⟨ds.length, Nat.zero_le _, rfl, F1, fgs junk ρ, Same.refl _, Rel.fgs junk (r.ext x), k⟩, ?_⟩
  rintro i n σ2 H2 ⟨hi, rfl, F2, ρ2, ff, r2, k2⟩
  obtain ⟨okg, oks⟩ := ok i F2 H2 ff r2.fh
  by_cases hlt : i < ds.length
  · right
    obtain ⟨go, yl⟩ := okg ds[i] (List.getElem?_eq_getElem hlt)
    rw [List.drop_eq_getElem_cons hlt] at k2
    unfold forD at k2
    refine ⟨go, fun σ H => ∃ F2 ρ2, Same F1 F2 ∧ Rel X.kw X.mg F0 H0 F2 σ H ρ2 ∧ OutOk X.kw X.mg F0 H0 W D (forD junk gm m (ds.drop (i + 1)) ρ2), fun σ' H' n => ⟨_, by omega, by omega, rfl, n⟩, fun v H3 y => ?_⟩
    obtain ⟨F3, x3, dv⟩ := yl v H3 y
    cases z : gm ρ2 ds[i] with
    | none => rw [z] at k2; exact False.elim k2
    | some ρ3 =>
      rw [z] at k2
      refine gok F3 _ H3 _ ρ3 v _ _ (r2.ext x3) dv z fun σ4 r4 _ => ⟨F1, F3, ρ3, r4.up (r.ext x).f0 (ff.trans x3.ff), ?_⟩
      have x1 := (r.ext x).toExt
      dsimp only at k2
      cases zz : m ρ3 with
      | nx ρ5 => rw [zz] at k2; exact fun F σ H r => ⟨F, _, r.f0, Rel.fgs junk (r.down x1), k2⟩
      | ct ρ5 => rw [zz] at k2; exact fun F σ H r => ⟨F, _, r.f0, Rel.fgs junk (r.down x1), k2⟩
      | bk ρ5 => rw [zz] at k2; exact fun F σ H r => k2 F σ H (Rel.fgs junk (r.down x1))
      | rt d => rw [zz] at k2; exact fun F H v e q => k2 F H v (e.down x1) q
      | rs c ρ5 => rw [zz] at k2; exact fun F σ H C r e => k2 F σ H C (r.down x1) e
      | no => rw [zz] at k2; exact k2
  · left
    have e : i = ds.length := by omega
    subst e
    rw [List.drop_length] at k2
    exact ⟨oks (Nat.le_refl _), k2 F2 σ2 H2 r2⟩
def whileD (junk : List Nat) (p : TM) (body : SM) : Nat → SM
  | 0, _ => .no
  | n + 1, ρ => (p ρ).out ρ fun b => if b then match body ρ with
      | .nx ρ2 => whileD junk p body n (fgs junk ρ2)
      | .ct ρ2 => whileD junk p body n (fgs junk ρ2)
      | .bk ρ2 => .nx (fgs junk ρ2)
      | o => o
    else .nx ρ
def sWhile (n : Nat) (junk : List Nat) (p : TM) (body : SM) : SM := fun ρ => whileD junk p body n (fgs junk ρ)
theorem sm_while {n : Nat} {c : Expr} {body : List Stmt} {junk : List Nat} {p : TM} (hp : PassesOwn (model X.prog X.w) X.A X.env X.xe) (hc : PTm X F0 H0 W c p) (hb : PSsm X F0 H0 W body m) : PSm X F0 H0 W (.While c body [] pos) (sWhile n junk p m) := by
  refine PS.imp (ps_while hp hc hb) fun D σ H ⟨F, ρ, r, h⟩ => ?_
  refine ⟨fun k σ H => ∃ F ρ, Rel X.kw X.mg F0 H0 F σ H ρ ∧ OutOk X.kw X.mg F0 H0 W D (whileD junk p m k ρ), ⟨n, F, fgs junk ρ, Rel.fgs junk r, h⟩, ?_⟩
  rintro k σ1 H1 ⟨F1, ρ1, r1, h1⟩
  cases k with
  | zero => exact False.elim h1
  | succ k =>
    unfold whileD at h1
    refine ⟨F1, ρ1, r1, (OutOk.got r1 h1).imp fun b k1 F2 H2 x => ?_⟩
    cases b with
    | true =>
      rw [if_pos rfl] at k1 ⊢
      refine ⟨fun σ H => ∃ F ρ, Rel X.kw X.mg F0 H0 F σ H ρ ∧ OutOk X.kw X.mg F0 H0 W D (whileD junk p m k ρ), fun σ' H' q => ⟨k, Nat.lt_succ_self k, q⟩, F2, ρ1, r1.ext x, ?_⟩
      cases zz : m ρ1 with
      | nx ρ5 => rw [zz] at k1; exact fun F σ H r => ⟨F, _, Rel.fgs junk r, k1⟩
      | ct ρ5 => rw [zz] at k1; exact fun F σ H r => ⟨F, _, Rel.fgs junk r, k1⟩
      | bk ρ5 => rw [zz] at k1; exact fun F σ H r => k1 F σ H (Rel.fgs junk r)
      | rt d => rw [zz] at k1; exact k1
      | rs c ρ5 => rw [zz] at k1; exact k1
      | no => rw [zz] at k1; exact k1
    | false =>
      rw [if_neg Bool.false_ne_true] at k1 ⊢
      exact k1 F2 σ1 H2 (r1.ext x)

/-! ### changes of what a slot alone holds -/
theorem Rel.lst {K : KW} {mg : Str → Option Value} {F H : Hp} {σ : St} {ρ : Env} {i : Nat} {ds : List D} (r : Rel K mg F0 H0 F σ H ρ) (e : slAt ρ i = some (.own (.lst ds))) : ∃ a xs, σ[i]? = some (some (.ref a)) ∧ F a = none ∧ H a = some (.lst xs) ∧ DatL K mg F xs ds := by
  obtain ⟨v, hv, a, rfl, n, xs, ha, l⟩ := r.sl i _ (slAt_some e)
  exact ⟨a, xs, hv, n, ha, l⟩
/-- x.append(e) -/
def sApp (i : Nat) (m : EM) : SM := fun ρ => match slAt ρ i with
  | some (.own (.lst ds)) => (m ρ).out ρ fun d => if ds.length < lim then .nx (ρ.set i (some (.own (.lst (ds ++ [d]))))) else .no
  | _ => .no
theorem sm_append (i : Nat) {x : Str} {p1 p2 p3 p4 : Pos} (he : PEm X F0 H0 W e me) (hN : X.N[i]? = some x := by rfl) (hv : Vis X.env.scope x := by first | exact Or.inl rfl | exact Or.inr (Or.inl rfl) | exact Or.inr (Or.inr rfl)) (hd : (x == ("__debug__" : Str)) = false := by decide) (hcd : (x == ("__classdict__" : Str)) = false := by decide)
    (hbase : attributeBase (.Name x p1) "append" X.env (eval (.Name x p1) X.env) = eval (.Name x p1) X.env := by rfl)
    (hfew : ((backTo p3 (starEach [e] X.env)).all (fun x => !x.1) && (backToKw p3 (keywordEach [] X.env)).all (fun x => x.1.isSome) && decide (([e] : List Expr).length + ([] : List Keyword).length + (if ([] : List Keyword).isEmpty then 0 else 1) < 30)) = true := by rfl)
    (hline : (p2.endLine == p3.line) = true := by rfl) (hs : starEach [e] X.env = (false, eval e X.env) :: starEach [] X.env := by rfl) (hplain : (backTo p3 (starEach [] X.env)).any (·.1) = false := by rfl)
    (hsw : swapsWith (.Call (.Attribute (.Name x p1) "append" p2) [e] [] p3) none p4.line X.env = pure false := by rfl) :
    PSm X F0 H0 W (.Expr (.Call (.Attribute (.Name x p1) "append" p2) [e] [] p3) p4) (sApp i me) := by
  refine PS.imp (ps_expr (pe_bm PySem.F.plainAttrs_list PySem.F.slot_list_append PySem.F.type_list_append mt_append (pe_var hN hv hd hcd) (pa_cons he pa_nil hs) hbase hfew hline hs hplain) hsw) fun D σ H ⟨F, ρ, r, h⟩ => ?_
  unfold sApp at h
  split at h
  · rename_i ds e0
    obtain ⟨a, xs, hσ, n, ha, l⟩ := r.lst e0
    refine ⟨_, hσ, .inl ⟨rfl, xs, SqL.of ha⟩, F, ρ, r, (OutOk.got r h).imp fun d k F' H' v x q => ?_⟩
    by_cases hl : ds.length < lim
    · rw [if_pos hl] at k
      have ha' := x.hh _ _ ha
      refine ⟨a, xs, v, rfl, rfl, ha', lim_lt (by rw [l.len]; exact hl), ?_⟩
      refine k F' σ _ ((r.ext x).write (slAt_some e0) hσ ⟨_, upd_same, (l.mono x.ff).snoc q⟩)
    · rw [if_neg hl] at k; exact False.elim k
  · exact False.elim h
/-- x.extend(e) -/
def sExt (i : Nat) (m : EM) : SM := fun ρ => match slAt ρ i with
  | some (.own (.lst ds)) => (m ρ).out ρ fun d => match d with
    | .lst es => if ds.length + es.length ≤ lim then .nx (ρ.set i (some (.own (.lst (ds ++ es))))) else .no
    | _ => .no
  | _ => .no
theorem sm_extend (i : Nat) {x : Str} {p1 p2 p3 p4 : Pos} (he : PBm X F0 H0 W e me) (hN : X.N[i]? = some x := by rfl) (hv : Vis X.env.scope x := by first | exact Or.inl rfl | exact Or.inr (Or.inl rfl) | exact Or.inr (Or.inr rfl)) (hd : (x == ("__debug__" : Str)) = false := by decide) (hcd : (x == ("__classdict__" : Str)) = false := by decide)
    (hbase : attributeBase (.Name x p1) "extend" X.env (eval (.Name x p1) X.env) = eval (.Name x p1) X.env := by rfl)
    (hfew : ((backTo p3 (starEach [e] X.env)).all (fun x => !x.1) && (backToKw p3 (keywordEach [] X.env)).all (fun x => x.1.isSome) && decide (([e] : List Expr).length + ([] : List Keyword).length + (if ([] : List Keyword).isEmpty then 0 else 1) < 30)) = true := by rfl)
    (hline : (p2.endLine == p3.line) = true := by rfl) (hs : starEach [e] X.env = (false, eval e X.env) :: starEach [] X.env := by rfl) (hplain : (backTo p3 (starEach [] X.env)).any (·.1) = false := by rfl)
    (hsw : swapsWith (.Call (.Attribute (.Name x p1) "extend" p2) [e] [] p3) none p4.line X.env = pure false := by rfl) :
    PSm X F0 H0 W (.Expr (.Call (.Attribute (.Name x p1) "extend" p2) [e] [] p3) p4) (sExt i me) := by
  refine PS.imp (ps_expr (pe_bm PySem.F.plainAttrs_list PySem.F.slot_list_extend PySem.F.type_list_extend mt_extend (pe_var hN hv hd hcd) (pa_cons he pa_nil hs) hbase hfew hline hs hplain) hsw) fun D σ H ⟨F, ρ, r, h⟩ => ?_
  unfold sExt at h
  split at h
  · rename_i ds e0
    obtain ⟨a, xs, hσ, n, ha, l⟩ := r.lst e0
    refine ⟨_, hσ, .inl ⟨rfl, xs, SqL.of ha⟩, F, ρ, r, (OutOk.got r h).imp fun d k F' H' v x q => ?_⟩
    split at k
    · rename_i es
      by_cases hl : ds.length + es.length ≤ lim
      · rw [if_pos hl] at k
        have ha' := x.hh _ _ ha
        obtain ⟨b, zs, rfl, hb, lz⟩ := q.lst x.fh
        refine ⟨a, b, xs, zs, rfl, rfl, ha', hb, lim_line (by rw [l.len, lz.len]; exact hl), ?_⟩
        exact k F' σ _ ((r.ext x).write (slAt_some e0) hσ ⟨_, upd_same, (l.mono x.ff).app lz⟩)
      · rw [if_neg hl] at k; exact False.elim k
    · exact False.elim k
  · exact False.elim h
/-- x op= e, x data -/
def sAug (i : Nat) (g : D → D → Option D) (m : EM) : SM := fun ρ => match slAt ρ i with
  | some (.val x) => (m ρ).out ρ fun y => match g x y with
    | some z => .nx (ρ.set i (some (.val z)))
    | none => .no
  | _ => .no
def PIpM (X : Cx) (op : Operator) (g : D → D → Option D) : Prop := PIp X op (rM X.kw X.mg g)
theorem ipm_add : PIpM X .Add D.sub → True := fun _ => trivial
def D.addI (x y : D) : Option D := match x, y with
  | .int i, .int j => some (.int (i + j))
  | _, _ => none
theorem ipm_addI : PIpM X .Add D.addI := by
  intro pins s σ H x y v u Q I rx ry h
  obtain ⟨F, dx, dy, d, fh, hx, hy, e, k⟩ := h
  unfold D.addI at e
  split at e
  · cases e
    exact ip_add pins s σ H _ _ v u Q I rx ry ⟨_, _, hx.int, hy.int, k F H _ (Ext.refl fh) (.int _)⟩
  · cases e
theorem ipm_subI : PIpM X .Sub D.sub := by
  intro pins s σ H x y v u Q I rx ry h
  obtain ⟨F, dx, dy, d, fh, hx, hy, e, k⟩ := h
  unfold D.sub at e
  split at e
  · cases e
    exact ip_sub pins s σ H _ _ v u Q I rx ry ⟨_, _, hx.int, hy.int, k F H _ (Ext.refl fh) (.int _)⟩
  · cases e
theorem sm_aug {i : Nat} {x : Str} {op : Operator} {g : D → D → Option D} {p1 : Pos} (hN : X.N.Nodup) (hi : X.N[i]? = some x) (hx : Loc X.env.scope x) (he : PBm X F0 H0 W e me) (ho : PIpM X op g) (hf : X.fn x = true ∨ X.env.scope.names.lookup x = some .local := by first | exact .inl rfl | exact .inr rfl | assumption) :
    PSm X F0 H0 W (.AugAssign (.Name x p1) op e pos) (sAug i g me) := by
  refine PS.imp (ps_aug hN hi hx he ho hf) fun D σ H ⟨F, ρ, r, h⟩ => ?_
  unfold sAug at h
  split at h
  · rename_i d0 e0
    obtain ⟨v, hv, q0⟩ := r.sl i _ (slAt_some e0)
    refine ⟨v, hv, F, ρ, r, (OutOk.got r h).imp fun d k F' H' w x q => ?_⟩
    cases z : g d0 d with
    | none => rw [z] at k; exact False.elim k
    | some z1 =>
      rw [z] at k
      exact ⟨F', d0, d, z1, x.fh, .inl (q0.mono x.ff), q, z, fun F2 H2 u x2 q2 => k F2 _ H2 (((r.ext x).ext x2).put i q2)⟩
  · exact False.elim h
end
end L2.Pv

set_option Elab.async false
set_option linter.all false
set_option maxRecDepth 100000
set_option maxHeartbeats 4000000
set_option autoImplicit false
/-! Defs; try; the law's end. -/
namespace L2.Pv
open PySem PySem.Spec PyProof.Rows

def startE (n : Nat) (ds : List D) : Env := ds.map (fun d => some (.val d)) ++ List.replicate (n - ds.length) none
/-- what a body comes to, called -/
def runM (n : Nat) (m : SM) (ds : List D) : R D := match m (startE n ds) with
  | .nx _ => .ok .non
  | .rt d => .ok d
  | .rs c _ => .ex c
  | _ => .no
theorem rel_start {K : KW} {mg : Str → Option Value} {F H : Hp} {N : List Str} {vs : List V} {ds : List D} (fh : Same F H) (l : DatL K mg F vs ds) : Rel K mg F H F (start N vs) H (startE N.length ds) := by
  have own : ∀ (i : Nat) (s : Sl), (startE N.length ds)[i]? = some (some s) → ∃ d, s = .val d ∧ ds[i]? = some d := fun i s e => by
    unfold startE at e
    by_cases hi : i < ds.length
    · rw [List.getElem?_append_left (by simpa using hi), List.getElem?_map, List.getElem?_eq_getElem hi] at e
      cases e
      exact ⟨_, rfl, List.getElem?_eq_getElem hi⟩
    · rw [List.getElem?_append_right (by simpa using hi), List.getElem?_replicate] at e
      split at e <;> cases e
  refine ⟨fh, Same.refl F, Same.refl H, fun a o e n => (by rw [n] at e; cases e), ?_, fun i s e => ?_, fun i d a e _ => ?_, fun i j d e a _ h _ _ _ => ?_⟩
  · unfold startE start
    rw [List.length_append, List.length_append, List.length_map, List.length_map, List.length_replicate, List.length_replicate, l.len]
  · obtain ⟨d, rfl, hd⟩ := own i s e
    obtain ⟨v, hv, q⟩ := l.getD hd
    have hi : i < vs.length := (List.getElem?_eq_some_iff.mp hv).1
    refine ⟨v, ?_, q⟩
    unfold start
    rw [List.getElem?_append_left (by simpa using hi), List.getElem?_map, hv]
    rfl
  · obtain ⟨d', e', _⟩ := own i _ e; cases e'
  · obtain ⟨d', e', _⟩ := own i _ h; cases e'
section
variable {P : Program} {w : World} {K : PySem.W.Frag} {mg : Str → Option Value} {base : Heap}
/-- where a def's body runs -/
abbrev bodyX (P : Program) (w : World) (K : PySem.W.Frag) (mg : Str → Option Value) (base : Heap) (N : List Str) (qual : Str) (scope : Scope) (f : Addr) (cdv : Value) (A : Around) (outer : List PySem.Env) (s : Shared) (H : Hp) (E : XK) : Cx := cxOf (L2.CX P w) P w K mg base N qual scope f cdv A outer s H E
theorem fn_okF {x qual : Str} {params : Arguments} {body : List Stmt} {scope : Scope} {kws : List (Str × V)} {f : Addr} {fd : FuncData} {N ps : List Str} {n k : Nat} {m : SM} (F : FunD K x qual params body scope [] kws f fd) (S : FnScope N ps scope) (hn : ps.length = n)
    (h : ∀ (cdv : Value) (A : Around) (outer : List PySem.Env) (s : Shared) (H : Hp) (E : XK) (F0 : Hp), Room k (bodyX P w K mg base N qual scope f cdv A outer s H E).A → Takes (bodyX P w K mg base N qual scope f cdv A outer s H E) (fun cls d _ H => E cls d H) →
      PassesOwn (model P w) (bodyX P w K mg base N qual scope f cdv A outer s H E).A (bodyX P w K mg base N qual scope f cdv A outer s H E).env (bodyX P w K mg base N qual scope f cdv A outer s H E).xe → PSsm (bodyX P w K mg base N qual scope f cdv A outer s H E) F0 H (fun cls d _ H => E cls d H) body m) :
    FnOk P w K mg base (L2.CX P w) (k + 1) f fd ps (spM ⟨K, w⟩ mg n (runM N.length m)) := by
  refine F.ok S (fun vs H Q E ⟨F, ds, _, l, e, _⟩ => by rw [l.len, e, hn]) fun cdv A outer s H vs Q E hr ⟨F0, ds, fh, l, e, q⟩ => ?_
  refine ⟨_, h cdv A outer s H E F0 hr (takes_of rfl rfl rfl rfl) (passes_of rfl), F0, startE N.length ds, rel_start fh l, ?_⟩
  unfold runM at q
  cases z : m (startE N.length ds) with
  | nx ρ => rw [z] at q; exact fun F1 σ H1 r => q F1 H1 _ r.toExt .non
  | rt d => rw [z] at q; exact q
  | rs c ρ => rw [z] at q; exact fun F1 σ H1 C r e => q F1 H1 C r.toExt e
  | bk ρ => rw [z] at q; exact False.elim q
  | ct ρ => rw [z] at q; exact False.elim q
  | no => rw [z] at q; exact q
/-- THE RULE for a def -/
theorem fn_mk {x qual : Str} {params : Arguments} {body : List Stmt} {scope : Scope} {kws : List (Str × V)} {f : Addr} {fd : FuncData} {N ps : List Str} {n k : Nat} {m : SM} (F : FunD K x qual params body scope [] kws f fd) (hm : mg x = some (.ref f)) (S : FnScope N ps scope) (hn : ps.length = n)
    (hb : ∀ (kV doc pm : Value) (an : Option Addr) (cdv ct : Value) (us : List Value), us.length = ps.length → bindArgs (PySem.W.fnOf x qual params body scope .none kV doc pm an cdv ct) ⟨us, []⟩ = pure (ps.zip us))
    (h : ∀ (cdv : Value) (A : Around) (outer : List PySem.Env) (s : Shared) (H : Hp) (E : XK) (F0 : Hp), Room k (bodyX P w K mg base N qual scope f cdv A outer s H E).A → Takes (bodyX P w K mg base N qual scope f cdv A outer s H E) (fun cls d _ H => E cls d H) →
      PassesOwn (model P w) (bodyX P w K mg base N qual scope f cdv A outer s H E).A (bodyX P w K mg base N qual scope f cdv A outer s H E).env (bodyX P w K mg base N qual scope f cdv A outer s H E).xe → PSsm (bodyX P w K mg base N qual scope f cdv A outer s H E) F0 H (fun cls d _ H => E cls d H) body m) :
    Fn K mg P w base x n (k + 1) (runM N.length m) := ⟨f, fd, ps, hn, hm, F.kp, F.bindsN hb, fn_okF F S hn h⟩
end

/-! ### try -/
section
variable {X : Cx} {F0 H0 : Hp} {W : WX} {m n : SM} {pos : Pos}
def Out.noRs : Out → Out
  | .rs _ _ => .no
  | o => o
/-- the clauses: the class that each names, its suite; sub: what a clause takes -/
def handM (sub : Str → Str → Bool) (c : Str) : List (Str × SM) → SM
  | [], ρ => .rs c ρ
  | (h, m) :: r, ρ => if sub c h then (m ρ).noRs else handM sub c r ρ
def sTry (cs : List Str) (sub : Str → Str → Bool) (mb : SM) (hs : List (Str × SM)) : SM := fun ρ => match mb ρ with
  | .rs c ρ1 => if cs.contains c then handM sub c hs ρ1 else .no
  | o => o
/-- what the classes are to one another, all names that may be raised -/
def SubOk (K : PySem.W.Frag) (mg : Str → Option Value) (sub : Str → Str → Bool) (cs : List Str) : Prop := ∀ c h C D, c ∈ cs → h ∈ cs → mg c = some (Value.ref C) → mg h = some (Value.ref D) → PySem.W.exmOne K (.ref C) (.ref D) = some (sub c h)
inductive Hds (X : Cx) (F0 H0 : Hp) (cs : List Str) : List ExceptHandler → List (Str × SM) → Prop
  | nil : Hds X F0 H0 cs [] []
  | cons {x : Str} {C : Addr} {b₀ : Stmt} {suite : List Stmt} {np p2 : Pos} {m : SM} {hds : List ExceptHandler} {l : List (Str × SM)} (hg : Gl X x) (hd : (x == ("__debug__" : Str)) = false) (hm : X.mg x = some (.ref C)) (hx : x ∈ cs)
      (hsu : ∀ (a : Addr) (pn : List (Addr × Obj)), PSsm (X.suite a pn) F0 H0 W0 (b₀ :: suite) m) (r : Hds X F0 H0 cs hds l) : Hds X F0 H0 cs (.ExceptHandler (some (.Name x np)) none (b₀ :: suite) p2 :: hds) ((x, m) :: l)
theorem sm_try {body : List Stmt} {h₀ : ExceptHandler} {hds : List ExceptHandler} {l : List (Str × SM)} {sub : Str → Str → Bool} {cs : List Str} (hs : X.stack = X.env :: X.outer) (hf : X.env.frame = some X.env.locals) (tk : Takes X W) (sb : SubOk X.K X.mg sub cs)
    (hb : ∀ (W' : WX) (pn : List (Addr × Obj)) (xe : Value → Shared → Prop), Takes (X.tr pn xe) W' → PassesOwn (model X.prog X.w) X.A X.env xe → PSsm (X.tr pn xe) F0 H0 W' body m)
    (hh : Hds X F0 H0 cs (h₀ :: hds) l) : PSm X F0 H0 W (.Try body (h₀ :: hds) [] [] pos) (sTry cs sub m l) := by
  have key : ∀ (hd : List ExceptHandler) (l : List (Str × SM)), Hds X F0 H0 cs hd l → ∃ l', HdsOk X hd l' ∧ ∀ (D : Ends) (c : Str) (ρ : Env) (C : Addr) (F : Hp) (σ : St) (H : Hp), c ∈ cs → X.mg c = some (.ref C) → Rel X.kw X.mg F0 H0 F σ H ρ → OutOk X.kw X.mg F0 H0 W D (handM sub c l ρ) → wMany X.K W D l' (.ref C) none σ H := by
    intro hd l h
    induction h with
    | nil => exact ⟨[], .nil, fun D c ρ C F σ H hc e r q => q F σ H C r e⟩
    | @cons x C' b₀ suite np p2 m hds l hg hd hm hx hsu r ih =>
      obtain ⟨l', hl, k⟩ := ih
      refine ⟨(.ref C', fun _ _ _ => tSm X.kw X.mg F0 H0 W0 m) :: l', .cons ⟨hg, hd, .inl hm⟩ (fun a oe cls d pn _ _ => hsu a _) hl, fun D c ρ C F σ H hc e r q => ?_⟩
      refine ⟨sub c x, sb c x C C' hc hx e hm, fun z a _ => ?_, fun z => ?_⟩
      · refine ⟨F, ρ, r, ?_⟩
        unfold handM at q
        rw [if_pos z] at q
        cases o : m ρ with
        | nx ρ => rw [o] at q; exact q
        | rt ρ => rw [o] at q; exact q
        | bk ρ => rw [o] at q; exact q
        | ct ρ => rw [o] at q; exact q
        | rs c ρ => rw [o] at q; exact False.elim q
        | no => rw [o] at q; exact q
      · unfold handM at q
        rw [if_neg (by rw [z]; exact Bool.false_ne_true)] at q
        exact k D c ρ C F σ H hc e r q
  obtain ⟨l', hl, k⟩ := key _ _ hh
  refine PS.imp (ps_try_many hs hf tk (tb := fun W' => tSm X.kw X.mg F0 H0 W' m) hb hl) fun D σ H ⟨F, ρ, r, q⟩ => ⟨F, ρ, r, ?_⟩
  unfold sTry at q
  cases o : m ρ with
  | nx ρ => rw [o] at q; exact q
  | rt ρ => rw [o] at q; exact q
  | bk ρ => rw [o] at q; exact q
  | ct ρ => rw [o] at q; exact q
  | rs c ρ1 =>
    rw [o] at q
    dsimp only at q
    by_cases hc : cs.contains c = true
    · rw [if_pos hc] at q
      exact fun F1 σ1 H1 C r1 e => k D c ρ1 C F1 σ1 H1 (List.contains_iff_mem.mp hc) e r1 q
    · rw [if_neg hc] at q
      exact False.elim q
  | no => rw [o] at q; exact q
end
end L2.Pv

set_option Elab.async false
set_option linter.all false
set_option maxRecDepth 100000
set_option maxHeartbeats 4000000
set_option autoImplicit false
/-! Dicts; stores. -/
namespace L2.Pv
open PySem PySem.Spec PyProof.Rows

theorem hu65 {k : Nat} {A : Around} (h : Room k A) : A.units + 65 < cLine := by have := h.un; omega
theorem hu1 {k : Nat} {A : Around} (h : Room k A) : A.units + 1 < cLine := by have := h.un; omega
/-- k: v, in its place or at the end -/
def D.put (ps : List (D × D)) (k v : D) : List (D × D) := if ps.any (fun p => p.1.same k) then ps.map (fun p => if p.1.same k then (p.1, v) else p) else ps ++ [(k, v)]
def D.drop (ps : List (D × D)) (k : D) : List (D × D) := ps.filter fun p => !p.1.same k
section
variable {K : KW} {mg : Str → Option Value} {F : Hp}
theorem DatK.any {k : D} {j : Key} (h : D.key k = some j) : ∀ {kvs : List (Key × V)} {ps : List (D × D)}, DatK K mg F kvs ps → (ps.any fun p => p.1.same k) = kvs.any fun kv => decide (kv.1 = j)
  | _, _, .nil => rfl
  | _, _, .cons (k := k') _ l => by rw [List.any_cons, List.any_cons, DatK.any h l, keyD_same k' h]
theorem DatK.app : ∀ {k1 k2 : List (Key × V)} {p1 p2 : List (D × D)}, DatK K mg F k1 p1 → DatK K mg F k2 p2 → DatK K mg F (k1 ++ k2) (p1 ++ p2)
  | _, _, _, _, .nil, m => m
  | _, _, _, _, .cons h l, m => .cons h (l.app m)
theorem DatK.repl {k d : D} {j : Key} {v : V} (h : D.key k = some j) (hv : Dat K mg F v d) : ∀ {kvs : List (Key × V)} {ps : List (D × D)}, DatK K mg F kvs ps → DatK K mg F (kvs.map fun kv => if kv.1 = j then (kv.1, v) else kv) (ps.map fun p => if p.1.same k then (p.1, d) else p)
  | _, _, .nil => .nil
  | _, _, .cons (k := k') hv' l => by
    rw [List.map_cons, List.map_cons, keyD_same k' h]
    by_cases e : k' = j
    · rw [if_pos e, if_pos (decide_eq_true e)]
      exact .cons hv (DatK.repl h hv l)
    · rw [if_neg e, if_neg (by rw [decide_eq_false e]; exact Bool.false_ne_true)]
      exact .cons hv' (DatK.repl h hv l)
theorem key_back {k : D} {j : Key} (h : D.key k = some j) : k = keyD j := by
  cases k with
  | int i => cases h; rfl
  | str i => cases h; rfl
  | _ => cases h
theorem DatK.put {kvs : List (Key × V)} {ps : List (D × D)} {k d : D} {j : Key} {v : V} (l : DatK K mg F kvs ps) (h : D.key k = some j) (hv : Dat K mg F v d) : DatK K mg F (putK kvs j v) (D.put ps k d) := by
  unfold putK D.put
  rw [l.any h]
  by_cases e : (kvs.any fun kv => decide (kv.1 = j)) = true
  · rw [if_pos e, if_pos e]; exact l.repl h hv
  · rw [if_neg e, if_neg e, key_back h]; exact l.app (.cons hv .nil)
theorem DatK.drop {k : D} {j : Key} (h : D.key k = some j) : ∀ {kvs : List (Key × V)} {ps : List (D × D)}, DatK K mg F kvs ps → DatK K mg F (dropK kvs j) (D.drop ps k)
  | _, _, .nil => .nil
  | _, _, .cons (k := k') hv l => by
    unfold dropK D.drop
    rw [List.filter_cons, List.filter_cons, keyD_same k' h]
    by_cases e : k' = j
    · rw [if_neg (by simp [e]), if_neg (by simp [e])]
      exact DatK.drop h l
    · rw [if_pos (by simp [e]), if_pos (by simp [e])]
      exact .cons hv (DatK.drop h l)
theorem DatT.any {k : List D} {j : List Key} (h : D.keys k = some j) : ∀ {kvs : List (List Key × V)} {ps : List (D × D)}, DatT K mg F kvs ps → (ps.any fun p => p.1.same (.tup k)) = kvs.any fun kv => decide (kv.1 = j)
  | _, _, .nil => rfl
  | _, _, .cons (k := k') _ l => by rw [List.any_cons, List.any_cons, DatT.any h l, keyD_sameT k' h]
theorem DatT.app : ∀ {k1 k2 : List (List Key × V)} {p1 p2 : List (D × D)}, DatT K mg F k1 p1 → DatT K mg F k2 p2 → DatT K mg F (k1 ++ k2) (p1 ++ p2)
  | _, _, _, _, .nil, m => m
  | _, _, _, _, .cons h l, m => .cons h (l.app m)
theorem DatT.repl {k : List D} {d : D} {j : List Key} {v : V} (h : D.keys k = some j) (hv : Dat K mg F v d) : ∀ {kvs : List (List Key × V)} {ps : List (D × D)}, DatT K mg F kvs ps → DatT K mg F (kvs.map fun kv => if kv.1 = j then (kv.1, v) else kv) (ps.map fun p => if p.1.same (.tup k) then (p.1, d) else p)
  | _, _, .nil => .nil
  | _, _, .cons (k := k') hv' l => by
    rw [List.map_cons, List.map_cons, keyD_sameT k' h]
    by_cases e : k' = j
    · rw [if_pos e, if_pos (decide_eq_true e)]
      exact .cons hv (DatT.repl h hv l)
    · rw [if_neg e, if_neg (by rw [decide_eq_false e]; exact Bool.false_ne_true)]
      exact .cons hv' (DatT.repl h hv l)
theorem keys_back : ∀ {k : List D} {j : List Key}, D.keys k = some j → k = j.map keyD
  | [], _, h => by cases h; rfl
  | d :: ds, _, h => by
    unfold D.keys at h
    split at h
    · rename_i k ks h1 h2
      cases h
      rw [key_back h1, keys_back h2]
      rfl
    · cases h
theorem DatT.put {kvs : List (List Key × V)} {ps : List (D × D)} {k : List D} {d : D} {j : List Key} {v : V} (l : DatT K mg F kvs ps) (h : D.keys k = some j) (hv : Dat K mg F v d) : DatT K mg F (putK kvs j v) (D.put ps (.tup k) d) := by
  unfold putK D.put
  rw [l.any h]
  by_cases e : (kvs.any fun kv => decide (kv.1 = j)) = true
  · rw [if_pos e, if_pos e]; exact l.repl h hv
  · rw [if_neg e, if_neg e, keys_back h]; exact l.app (.cons hv .nil)
end

section
variable {X : Cx} {F0 H0 : Hp} {W : WX} {e a b c : Expr} {me ma mb mc : EM} {pos : Pos}
/-! ### displays -/
theorem fm_dnil : PFm X F0 H0 W (.Dict [] [] pos) (eK (.dct false [])) := PE.imp pe_dnewK fun σ H Q ⟨F, ρ, r, g⟩ => fun p n =>
  g F _ p ⟨Same.refl F, r.fh.trans (same_upd n), same_upd n, fun a o e n => (by rw [n] at e; cases e)⟩ (r.fh.free n) n ⟨[], upd_same, .nil⟩
theorem fm_dnilT : PFm X F0 H0 W (.Dict [] [] pos) (eK (.dct true [])) := PE.imp pe_dnewT fun σ H Q ⟨F, ρ, r, g⟩ => fun p n =>
  g F _ p ⟨Same.refl F, r.fh.trans (same_upd n), same_upd n, fun a o e n => (by rw [n] at e; cases e)⟩ (r.fh.free n) n ⟨[], upd_same, .nil⟩
theorem dn_obj {P : Program} {w : World} {H : Hp} {h : Heap} {a : Addr} {xs : List (NestedKey × Addr × Value)} (h0 : (a == sysModules) = false) (nd : (xs.map (·.1)).Nodup) {o : Obj} {es : Array DictEntry} {ep : Nat} (h1 : h.get? a = some o) (h2 : o.ExactDict) (h3 : o.data = .dict es ep) (h4 : es.toList = xs.map (entryN w)) : ObjOk P w H h a (DnO w a xs) :=
  ⟨⟨h0, nd, o, es, ep, h1, h2, h3, h4⟩, ⟨o, h1⟩, fun h1 h2 ⟨q0, q1, o, es, ep, e, q2, q3, q4⟩ k => ⟨q0, q1, o, es, ep, k _ e, q2, q3, q4⟩⟩
def tDNewN (w : World) : TE := fun _ H Q => ∀ p, H p = none → Q (.ref p) (upd H p (DnO w p []))
theorem pe_dnewN : PE X (.Dict [] [] pos) (tDNewN X.w) := ⟨fun pins s σ H Q I h =>
  wpAny_Dict_empty ⟨.ref s.heap.objs.size, _, I.laid (a := s.heap.objs.size) (o := DnO X.w s.heap.objs.size []) (t' := s.toks) (fun _ _ q => Heap.get?_push_of_some _ q) (Nat.le_refl _)
    (dn_obj (xs := []) (beq_eq_false_iff_ne.mpr (Ne.symm (Nat.ne_of_lt I.big))) List.nodup_nil (Heap.get?_push_size _ rfl) ⟨rfl, rfl, rfl⟩ (es := #[]) (ep := 0) rfl rfl), rfl, h _ (I.hok.fresh (Nat.le_refl _))⟩⟩
theorem fm_dnilN : PFm X F0 H0 W (.Dict [] [] pos) (eK (.dcn [])) := PE.imp pe_dnewN fun σ H Q ⟨F, ρ, r, g⟩ => fun p n =>
  g F _ p ⟨Same.refl F, r.fh.trans (same_upd n), same_upd n, fun a o e n => (by rw [n] at e; cases e)⟩ (r.fh.free n) n ⟨[], upd_same, .nil⟩
/-- .. a pair is put -/
def D.putN (ps : List (D × D)) (k v : D) : List (D × D) := if (D.findN k ps).isSome then ps.map (fun p => if D.nk p.1 = D.nk k then (p.1, v) else p) else ps ++ [(k, v)]
theorem DatN.len {K : KW} {mg : Str → Option Value} {F : Hp} : ∀ {xs : List (NestedKey × Addr × Value)} {ps : List (D × D)}, DatN K mg F xs ps → xs.length = ps.length
  | _, _, .nil => rfl
  | _, _, .cons _ _ _ _ _ l => congrArg (· + 1) l.len
theorem DatN.snoc {K : KW} {mg : Str → Option Value} {F : Hp} {k : NestedKey} {b : Addr} {u : Value} {v : V} {kd d : D} (e1 : D.nk kd = some k) (e2 : k.depth ≤ 8) (q : Dat K mg F (.ref b) kd) (r : RelV v u) (z : Dat K mg F v d) : ∀ {xs : List (NestedKey × Addr × Value)} {ps : List (D × D)}, DatN K mg F xs ps → DatN K mg F (xs ++ [(k, b, u)]) (ps ++ [(kd, d)])
  | _, _, .nil => .cons e1 e2 q r z .nil
  | _, _, .cons f1 f2 q' r' z' l => .cons f1 f2 q' r' z' (DatN.snoc e1 e2 q r z l)
theorem DatN.repl {K : KW} {mg : Str → Option Value} {F : Hp} {j : NestedKey} {u : Value} {v : V} {x d : D} (h : D.nk x = some j) (r : RelV v u) (z : Dat K mg F v d) : ∀ {xs : List (NestedKey × Addr × Value)} {ps : List (D × D)}, DatN K mg F xs ps → DatN K mg F (xs.map (putAt j u)) (ps.map fun p => if D.nk p.1 = D.nk x then (p.1, d) else p)
  | _, _, .nil => .nil
  | _, _, .cons (k := k) (b := b) (u := u0) (kd := kd) (d := d0) e1 e2 q r' z' l => by
    have ih := DatN.repl h r z l
    rw [List.map_cons, List.map_cons]
    by_cases e : k = j
    · rw [show putAt j u (k, b, u0) = (k, b, u) from if_pos e, show (if D.nk (kd, d0).1 = D.nk x then ((kd, d0).1, d) else (kd, d0)) = (kd, d) from if_pos (by rw [e1, h, e])]
      exact .cons e1 e2 q r z ih
    · rw [show putAt j u (k, b, u0) = (k, b, u0) from if_neg e, show (if D.nk (kd, d0).1 = D.nk x then ((kd, d0).1, d) else (kd, d0)) = (kd, d0) from if_neg (by rw [e1, h]; exact fun q => e (Option.some.inj q))]
      exact .cons e1 e2 q r' z' ih
theorem DatN.put {K : KW} {mg : Str → Option Value} {F : Hp} {j : NestedKey} {b : Addr} {u : Value} {v : V} {x d : D} (h : D.nk x = some j) (e2 : j.depth ≤ 8) (q : Dat K mg F (.ref b) x) (r : RelV v u) (z : Dat K mg F v d) {xs : List (NestedKey × Addr × Value)} {ps : List (D × D)} (l : DatN K mg F xs ps) : DatN K mg F (storedH xs j b u) (D.putN ps x d) := by
  unfold storedH D.putN
  rcases find_N h l with ⟨f1, f2⟩ | ⟨p, w, d', f1, f2, _⟩
  · rw [f1, f2]; exact l.snoc h e2 q r z
  · rw [f1, f2]; exact l.repl h r z
def pairsM : List (EM × EM) → Env → R (List (D × D))
  | [], _ => .ok []
  | (k, v) :: r, ρ => (k ρ).bind fun x => (v ρ).bind fun y => (pairsM r ρ).bind fun ps => if D.keyOk false x then .ok ((x, y) :: ps) else .no
def mergeD (ps : List (D × D)) : List (D × D) := ps.foldl (fun acc p => D.put acc p.1 p.2) []
def eDisp (ps : List (EM × EM)) : EM := fun ρ => (pairsM ps ρ).bind fun ps => .ok (.dct false (mergeD ps))
inductive PPm (X : Cx) (F0 H0 : Hp) (W : WX) : List (Option Expr) → List Expr → List (EM × EM) → Prop
  | nil : PPm X F0 H0 W [] [] []
  | cons {k v : Expr} {ks : List (Option Expr)} {vs : List Expr} {mk mv : EM} {ms : List (EM × EM)} : PEm X F0 H0 W k mk → PEm X F0 H0 W v mv → PPm X F0 H0 W ks vs ms → PPm X F0 H0 W (some k :: ks) (v :: vs) ((mk, mv) :: ms)
theorem key_ex {x : D} (h : D.keyOk false x = true) : ∃ j, D.key x = some j := by
  cases x with
  | int i => exact ⟨_, rfl⟩
  | str i => exact ⟨_, rfl⟩
  | _ => cases h
theorem PPm.run {ks : List (Option Expr)} {vs : List Expr} {ms : List (EM × EM)} (h : PPm X F0 H0 W ks vs ms) : ∃ trs, PPs X pos ks vs trs ∧ ks.all (·.isSome) = true ∧ ks.length = vs.length ∧ ks.length = ms.length ∧ ∀ (σ : St) (H : Hp) (Q : List (V × V) → Hp → Prop) (F : Hp) (ρ : Env), Rel X.kw X.mg F0 H0 F σ H ρ →
    Got X.mg W F H σ (pairsM ms ρ) (fun ps => ∀ F' H' kvs, Ext F H F' H' → kvs.length = ms.length → DatK X.kw X.mg F' kvs ps → Q (kvs.map fun kv => (kV kv.1, kv.2)) H') → tPairs trs σ H Q := by
  induction h with
  | nil => exact ⟨[], pps_nil, rfl, rfl, rfl, fun σ H Q F ρ r g => g F H [] (Ext.refl r.fh) rfl .nil⟩
  | @cons k v ks vs mk mv ms hk hv r ih =>
    obtain ⟨trs, hp, h1, h2, h3, ht⟩ := ih
    refine ⟨_, pps_cons hk hv hp, by rw [List.all_cons, h1]; rfl, congrArg (· + 1) h2, congrArg (· + 1) h3, fun σ H Q F ρ r g => ?_⟩
    refine ⟨F, ρ, r, Got.imp (Got.bind (show Got X.mg W F H σ ((mk ρ).bind fun x => (mv ρ).bind fun y => (pairsM ms ρ).bind fun ps => if D.keyOk false x then .ok ((x, y) :: ps) else .no) _ from g)) fun x k1 F1 H1 u x1 d1 => ?_⟩
    refine ⟨F1, ρ, r.ext x1, ((k1.move x1).bind).imp fun y k2 F2 H2 w x2 d2 => ?_⟩
    refine ht σ H2 _ F2 ρ ((r.ext x1).ext x2) (((k2.move x2).bind).imp fun ps k3 F3 H3 kvs x3 hl l => ?_)
    by_cases hc : D.keyOk false x = true
    · rw [if_pos hc] at k3
      obtain ⟨j, hj⟩ := key_ex hc
      have z := k3 F3 H3 ((j, w) :: kvs) (x1.trans (x2.trans x3)) (congrArg (· + 1) hl) (by rw [key_back hj]; exact .cons (d2.mono x3.ff) l)
      rw [List.map_cons, ← key_V (H := H1) (.inl d1) hj] at z
      exact z
    · rw [if_neg hc] at k3; exact False.elim k3
theorem merge_dat {K : KW} {mg : Str → Option Value} {F : Hp} : ∀ {kvs : List (Key × V)} {ps : List (D × D)} {acc : List (Key × V)} {ad : List (D × D)}, DatK K mg F kvs ps → DatK K mg F acc ad → DatK K mg F (mergeK acc kvs) (ps.foldl (fun acc p => D.put acc p.1 p.2) ad)
  | _, _, _, _, .nil, m => m
  | (k, v) :: vs, _, acc, ad, .cons (d := d) (ds := ds) hv l, m => by
    show DatK K mg F (mergeK (putK acc k v) vs) (ds.foldl (fun acc p => D.put acc p.1 p.2) (D.put ad (keyD k) d))
    exact merge_dat l (m.put (D.key_keyD k) hv)
theorem fm_disp {ks : List (Option Expr)} {vs : List Expr} {ms : List (EM × EM)} (h : PPm X F0 H0 W ks vs ms) (h0 : ks ≠ [] := by exact fun z => nomatch z) (h15 : ms.length ≤ 15 := by decide) : PFm X F0 H0 W (.Dict ks vs pos) (eDisp ms) := by
  obtain ⟨trs, hp, h1, h2, h3, ht⟩ := h.run (pos := pos)
  refine PE.imp (pe_disp hp h1 h2 h0 (by rw [h3]; exact h15)) fun σ H Q ⟨F, ρ, r, g⟩ => fun p n => ?_
  have x0 : Ext F H F (upd H p (.dK [])) := ⟨Same.refl F, r.fh.trans (same_upd n), same_upd n, fun a o e n => (by rw [n] at e; cases e)⟩
  refine ht σ _ _ F ρ (r.ext x0) ((g.bind.move x0).imp fun ps k F' H' kvs x hl l => ?_)
  have hp' := x.hh p _ upd_same
  have n' : F' p = none := x.own (r.fh.free n) upd_same trivial
  refine ⟨hp', kvs, rfl, by rw [hl]; exact h15, ?_⟩
  refine k F' _ p ⟨x.ff, fun c w hc => by rw [upd_ne (ne_of_none hc n')]; exact x.fh c w hc, fun c w hc => by rw [upd_ne (ne_of_none hc n)]; exact (x0.trans x).hh c w hc, (x0.trans x).nw⟩ n' n ⟨_, upd_same, merge_dat l .nil⟩

/-! ### d.get -/
def eGet1 (ma mb : EM) : EM := fun ρ => (ma ρ).bind fun d => match d with
  | .dct t ps => (mb ρ).bind fun k => if D.keyOk t k then .ok ((D.find k ps).getD .non) else .no
  | _ => .no
def eGet2 (ma mb mc : EM) : EM := fun ρ => (ma ρ).bind fun d => match d with
  | .dct t ps => (mb ρ).bind fun k => (mc ρ).bind fun x => if D.keyOk t k then .ok ((D.find k ps).getD x) else .no
  | _ => .no
theorem DatB.isD {K : KW} {mg : Str → Option Value} {F H : Hp} {v : V} {t : Bool} {ps : List (D × D)} (fh : Same F H) (b : DatB K mg F H v (.dct t ps)) : ∃ a, v = .ref a ∧ IsD H a := by
  cases t with
  | false => obtain ⟨a, kvs, e, r, _⟩ := b.dctK fh; exact ⟨a, e, .inl ⟨kvs, r⟩⟩
  | true => obtain ⟨a, kvs, e, r, _⟩ := b.dctT fh; exact ⟨a, e, .inr ⟨kvs, r⟩⟩
theorem em_get1 {p2 p3 : Pos} (hu : X.A.units + 1 < cLine) (ha : PBm X F0 H0 W a ma) (hb : PBm X F0 H0 W b mb) (m : M1 X a "get" p2 b p3) : PEm X F0 H0 W (.Call (.Attribute a "get" p2) [b] [] p3) (eGet1 ma mb) := by
  refine PE.imp (pe_dget1 hu ha hb m) fun σ H Q ⟨F, ρ, r, g⟩ => ?_
  refine ⟨F, ρ, r, g.bind.imp fun d k F1 H1 v x1 d1 => ?_⟩
  split at k
  · rename_i t ps
    obtain ⟨a, e, hd⟩ := d1.isD x1.fh
    refine ⟨a, e, hd, F1, ρ, r.ext x1, ((k : Got _ _ _ _ _ _ _).move x1).bind.imp fun y k2 F2 H2 w x2 d2 => ?_⟩
    by_cases hc : D.keyOk t y = true
    · rw [if_pos hc] at k2
      have z : ∀ F' H' v, Ext F H F' H' → Dat X.kw X.mg F' v ((D.find y ps).getD .non) → Q v H' := k2
      obtain ⟨a', e', h⟩ := (d1.ext x2).get x2.fh d2 hc
      rw [e] at e'; cases e'
      rcases h with ⟨g, ef⟩ | ⟨u, d', g, ef, du⟩
      · rw [ef] at z; exact ⟨none, g, z F2 H2 _ (x1.trans x2) .non⟩
      · rw [ef] at z; exact ⟨some u, g, z F2 H2 _ (x1.trans x2) du⟩
    · rw [if_neg hc] at k2; exact False.elim k2
  · exact False.elim k
theorem em_get2 {p2 p3 : Pos} (hu : X.A.units + 1 < cLine) (ha : PBm X F0 H0 W a ma) (hb : PBm X F0 H0 W b mb) (hc : PEm X F0 H0 W c mc) (m : M2 X a "get" p2 b c p3) : PEm X F0 H0 W (.Call (.Attribute a "get" p2) [b, c] [] p3) (eGet2 ma mb mc) := by
  refine PE.imp (pe_dget2 hu ha hb hc m) fun σ H Q ⟨F, ρ, r, g⟩ => ?_
  refine ⟨F, ρ, r, g.bind.imp fun d k F1 H1 v x1 d1 => ?_⟩
  split at k
  · rename_i t ps
    obtain ⟨a, e, hd⟩ := d1.isD x1.fh
    refine ⟨a, e, hd, F1, ρ, r.ext x1, ((k : Got _ _ _ _ _ _ _).move x1).bind.imp fun y k2 F2 H2 w x2 d2 => ?_⟩
    refine ⟨F2, ρ, (r.ext x1).ext x2, (k2.move x2).bind.imp fun dx k3 F3 H3 wx x3 d3 => ?_⟩
    by_cases hc : D.keyOk t y = true
    · rw [if_pos hc] at k3
      have z : ∀ F' H' v, Ext F H F' H' → Dat X.kw X.mg F' v ((D.find y ps).getD dx) → Q v H' := k3
      obtain ⟨a', e', h⟩ := (d1.ext (x2.trans x3)).get x3.fh (d2.ext x3) hc
      rw [e] at e'; cases e'
      rcases h with ⟨g, ef⟩ | ⟨u, d', g, ef, du⟩
      · rw [ef] at z; exact ⟨none, g, z F3 H3 _ (x1.trans (x2.trans x3)) d3⟩
      · rw [ef] at z; exact ⟨some u, g, z F3 H3 _ (x1.trans (x2.trans x3)) du⟩
    · rw [if_neg hc] at k3; exact False.elim k3
  · exact False.elim k

/-! ### x[k] = e, x held alone -/
def D.setAt (o k v : D) : Option D := match o with
  | .lst ds => match k with
    | .int i => (ixN ds.length i).map fun j => .lst (ds.set j v)
    | _ => none
  | .dct t ps => if D.keyOk t k && decide (ps.length < lim) then some (.dct t (D.put ps k v)) else none
  | .dcn ps => if D.nkOk k && decide (ps.length < lim) then some (.dcn (D.putN ps k v)) else none
  | _ => none
def sSub (i : Nat) (mk mv : EM) : SM := fun ρ => (mv ρ).out ρ fun v => match slAt ρ i with
  | some (.own o) => (mk ρ).out ρ fun k => match D.setAt o k v with
    | some o' => .nx (ρ.set i (some (.own o')))
    | none => .no
  | _ => .no
/-- o[k] = v by data: what o holds alone -/
def rSetM (K : KW) (mg : Str → Option Value) : TSet := fun o k v H Q => ∃ F a od kd vd od', o = .ref a ∧ Same F H ∧ F a = none ∧ OwnAt K mg F H a od ∧ DatB K mg F H k kd ∧ Dat K mg F v vd ∧ D.setAt od kd vd = some od' ∧ ∀ u, OwnAt K mg F (upd H a u) a od' → Q (upd H a u)
theorem set_any (hu : X.A.units + 65 < cLine) : PSet X (rSetM X.kw X.mg) := by
  intro pins s σ H o i v ov iv u Q I ro ri rv h
  obtain ⟨F, a, od, kd, vd, od', rfl, fh, n, oo, hk, hv, e, k⟩ := h
  cases od with
  | lst ds =>
    obtain ⟨xs, hx, l⟩ := oo
    cases kd with
    | int j =>
      have e1 : (ixN ds.length j).map (fun j => D.lst (ds.set j vd)) = some od' := e
      cases q : ixN ds.length j with
      | none => rw [q] at e1; cases e1
      | some m =>
        rw [q] at e1; cases e1
        exact set_list pins s σ H _ _ v ov iv u Q I ro ri rv ⟨a, xs, j, m, rfl, hk.int, hx, by rw [l.len]; exact q, k _ ⟨_, upd_same, l.set m hv⟩⟩
    | _ => cases e
  | dct t ps =>
    have e1 : (if D.keyOk t kd && decide (ps.length < lim) then some (D.dct t (D.put ps kd vd)) else none) = some od' := e
    split at e1
    · rename_i hc
      cases e1
      obtain ⟨c1, c2⟩ := Bool.and_eq_true_iff.mp hc
      cases ro
      cases t with
      | false =>
        obtain ⟨kvs, hx, l⟩ := oo
        obtain ⟨j, hj⟩ := key_ex c1
        have ek := key_V hk hj
        subst ek
        exact d_setItem (by omega) I (DPut.k hx (lim_lt (by rw [l.len]; exact of_decide_eq_true c2))) ri rv fun s' I' => ⟨_, I', k _ ⟨_, upd_same, l.put hj hv⟩⟩
      | true =>
        obtain ⟨kvs, hx, l⟩ := oo
        cases kd with
        | tup ks =>
          obtain ⟨j, hj⟩ : ∃ j, D.keys ks = some j := Option.isSome_iff_exists.mp c1
          obtain ⟨b, ys, rfl, _, hb, l2⟩ := hk.tup fh
          have e2 := keys_V l2 hj
          subst e2
          exact d_setItem (by omega) I (DPut.t hx hb (lim_lt (by rw [l.len]; exact of_decide_eq_true c2))) ri rv fun s' I' => ⟨_, I', k _ ⟨_, upd_same, l.put hj hv⟩⟩
        | _ => cases c1
    · cases e1
  | dcn ps =>
    have e1 : (if D.nkOk kd && decide (ps.length < lim) then some (D.dcn (D.putN ps kd vd)) else none) = some od' := e
    split at e1
    · rename_i hc
      cases e1
      obtain ⟨c1, c2⟩ := Bool.and_eq_true_iff.mp hc
      cases ro
      obtain ⟨xs, hx, l⟩ := oo
      obtain ⟨_, j, _, hj, hd8⟩ := nkOk_some c1
      obtain ⟨c, rfl, rfl, q, hk8⟩ := key_N I fh hk c1 hj ri
      obtain ⟨h0, dd⟩ := dn_of I fh hx l
      refine wpAny_setItem_heap (hsz := by rw [l.len]; exact Nat.le_of_lt (lim_lt (of_decide_eq_true c2))) (by show X.A.in1.units + 8 < cLine; rw [Around.in1_units]; omega) hk8 dd fun h' dd' hs => ?_
      obtain ⟨o, es, ep, h1, h2, h3, h4, _, h5⟩ := dd'
      exact ⟨_, d_write I (by rw [hx]; exact True.intro) hs ⟨o, h1⟩ (dn_obj h0 h5 h1 h2 h3 h4), k _ ⟨_, upd_same, l.put hj hd8 q rv hv⟩⟩
    · cases e1
  | _ => cases e
theorem sm_sub {i : Nat} {x : Str} {p1 p2 : Pos} (hu : X.A.units + 65 < cLine) (he : PEm X F0 H0 W e me) (hb : PBm X F0 H0 W b mb) (hN : X.N[i]? = some x := by rfl) (hv : Vis X.env.scope x := by first | exact Or.inl rfl | exact Or.inr (Or.inl rfl) | exact Or.inr (Or.inr rfl)) (hd : (x == ("__debug__" : Str)) = false := by decide) (hcd : (x == ("__classdict__" : Str)) = false := by decide)
    (ha : ∀ v, assign (.Subscript (.Name x p1) b p2) X.env v = (do
      let ov ← holding [v] (eval (.Name x p1) X.env)
      let iv ← holding [v, ov] (eval b X.env)
      standAt p2
      holding [v, ov, iv] (setItem ov iv v)
      release [v, ov, iv] []) := by intro _; rfl)
    (hs : swapsWithSole [.Subscript (.Name x p1) b p2] e pos.line X.env = pure false := by rfl) (hw : swappedStores [.Subscript (.Name x p1) b p2] e X.env = pure none := by rfl)
    (h1 : (assignEach [.Subscript (.Name x p1) b p2] X.env).map (·.2) = [assign (.Subscript (.Name x p1) b p2) X.env] := by rfl) : PSm X F0 H0 W (.Assign [.Subscript (.Name x p1) b p2] e pos) (sSub i mb me) := by
  refine PS.imp (ps_asg he (pg_sub (pe_var hN hv hd hcd) hb (set_any hu) ha) hs hw h1) fun En σ H ⟨F, ρ, r, h⟩ => ⟨F, ρ, r, (OutOk.got r h).imp fun d k F1 H1 v x1 d1 => ?_⟩
  split at k
  · rename_i od e0
    obtain ⟨ov, hσ, a, rfl, n, oo⟩ := r.sl i _ (slAt_some e0)
    refine ⟨_, hσ, F1, ρ, r.ext x1, (OutOk.got (r.ext x1) k).imp fun kd k2 F2 H2 w x2 d2 => ?_⟩
    cases z : D.setAt od kd d with
    | none => rw [z] at k2; exact False.elim k2
    | some o' =>
      rw [z] at k2
      obtain ⟨ov', hσ', a', ea, n', oo'⟩ := ((r.ext x1).ext x2).sl i _ (slAt_some e0)
      rw [hσ] at hσ'; cases hσ'; cases ea
      exact ⟨F2, a, od, kd, d, o', rfl, x2.fh, n', oo', d2, d1.mono x2.ff, z, fun u o => k2 F2 σ _ (((r.ext x1).ext x2).write (slAt_some e0) hσ o)⟩
  · exact False.elim k
end
end L2.Pv

set_option Elab.async false
set_option linter.all false
set_option maxRecDepth 100000
set_option maxHeartbeats 4000000
set_option autoImplicit false
/-! More rules. -/
namespace L2.Pv
open PySem PySem.Spec PyProof.Rows

/-! ### the module's constants and classes -/
/-- the module's name x is a tuple of these -/
def GTup (K : PySem.W.Frag) (mg : Str → Option Value) (x : Str) (ds : List D) : Prop := ∃ a xs, mg x = some (.ref a) ∧ (∀ H, SqT K H a xs) ∧ ∀ (F : Hp) (w : World), DatL ⟨K, w⟩ mg F xs ds
/-- .. an exception's class of the program -/
structure ExF (K : PySem.W.Frag) (mg : Str → Option Value) (x : Str) : Prop where
  gC : mg x = some (.ref (He.ga K x))
  ex : PySem.W.excIn K (He.ga K x) He.veBase "ValueError.__new__" = true
  kp : PySem.W.keepIn K (.ref (He.ga K x)) = true
  sb : PySem.W.subIn K (.ref (He.ga K x)) (.type "BaseException") = some true
  ty : PySem.W.typeIn K (.ref (He.ga K x)) = some (.type "type")
theorem kit_all {K : PySem.W.Frag} {U : String} (h : (["NoneType", "bool", "int", "str", "tuple", "list"].all fun T => decide (kitB T U = some (isTy T U))) = true) : KitOk K U := fun T hT => kit_ty (of_decide_eq_true (List.all_eq_true.mp h T hT))
theorem kit_int {K : PySem.W.Frag} : KitOk K "int" := kit_all (by decide +kernel)
theorem kit_bool {K : PySem.W.Frag} : KitOk K "bool" := kit_all (by decide +kernel)
theorem kit_str {K : PySem.W.Frag} : KitOk K "str" := kit_all (by decide +kernel)
theorem kit_tuple {K : PySem.W.Frag} : KitOk K "tuple" := kit_all (by decide +kernel)
section
variable {X : Cx} {F0 H0 : Hp} {W : WX} {e a b c tg : Expr} {m ma mb mc : EM} {es : List Expr} {ms : List EM} {pos : Pos}
theorem em_gint {x : Str} {i : Int} (hg : Gl X x) (h : ∃ t, X.mg x = some (.int i t)) (hdb : (x == ("__debug__" : Str)) = false := by decide) : PEm X F0 H0 W (.Name x pos) (eK (.int i)) :=
  let ⟨t, e⟩ := h
  em_glob (v := .int i) hg ⟨_, e, t, rfl⟩ (.int i) hdb
theorem em_gstr {x : Str} {i : Str} (hg : Gl X x) (h : ∃ t, X.mg x = some (.str i t)) (hdb : (x == ("__debug__" : Str)) = false := by decide) : PEm X F0 H0 W (.Name x pos) (eK (.str i)) :=
  let ⟨t, e⟩ := h
  em_glob (v := .str i) hg ⟨_, e, t, rfl⟩ (.str i) hdb
theorem sm_raiseX {x t : Str} {j : Nat} {p1 p2 p3 : Pos} (h : ExF X.K X.mg x) (hc : X.calm = true) (tk : Takes X W) (hg : Gl X x) (hdb : (x == ("__debug__" : Str)) = false := by decide) : PSm X F0 H0 W (.Raise (some (.Call (.Name x p1) [.Constant (.str t) j p2] [] p3)) none pos) (fun ρ => .rs x ρ) :=
  sm_raise hc tk h.ex h.gC h.kp (raises_own h.sb h.ty) hg hdb
/-- the items of a written tuple -/
def iK (ds : List D) : AM := fun _ => .ok ds
theorem itt_ok {K : KW} {mg : Str → Option Value} {F : Hp} {a : Addr} {xs : List V} {ds : List D} (h : ∀ H, SqT K H a xs) (l : ∀ F, DatL K mg F xs ds) : ItOk K mg F (Itt K a) ds := fun i F1 H1 s1 s2 => by
  refine ⟨fun d hd => ?_, fun hl => ⟨xs, h H1, by rw [(l F).len]; exact hl⟩⟩
  obtain ⟨v, hv, dv⟩ := (l F1).getD hd
  refine ⟨⟨xs, v, h H1, hv⟩, fun x H2 ⟨e, y⟩ => ?_⟩
  subst e
  have z := y xs (h _)
  rw [hv] at z; cases z
  exact ⟨F1, Ext.refl s2, dv⟩
theorem im_gtup {x : Str} {ds : List D} (hg : Gl X x) (h : GTup X.K X.mg x ds) (hdb : (x == ("__debug__" : Str)) = false := by decide) : PIm X F0 H0 W tg (.Name x pos) (iK ds) := by
  obtain ⟨a, xs, hm, hq, hl⟩ := h
  exact PI.imp (pi_tup (pe_glob (v := .ref a) hg hm rfl hdb)) fun σ H R ⟨F, ρ, r, g⟩ => ⟨a, rfl, ⟨xs, hq H⟩, g F H _ (Ext.refl r.fh) (itt_ok hq fun F => hl F X.w)⟩
/-- x in a written tuple -/
def eInK (neg : Bool) (ds : List D) (ma : EM) : EM := fun ρ => (ma ρ).bind fun x => if x.flat && ds.all D.flat then .ok (.bl (if neg then !x.inb ds else x.inb ds)) else .no
theorem inK_read {x : Str} {ds : List D} {neg : Bool} (h : GTup X.K X.mg x ds) : ∃ a, X.mg x = some (.ref a) ∧ ∀ σ H Q, tE X.kw X.mg F0 H0 W (eInK neg ds ma) σ H Q → tOp (rIn X.K neg) (tEb X.kw X.mg F0 H0 W ma) (tC (.ref a)) σ H Q := by
  obtain ⟨a, xs, hm, hq, hl⟩ := h
  refine ⟨a, hm, fun σ H Q ⟨F, ρ, r, g⟩ => ⟨F, ρ, r, g.bind.imp fun d k F1 H1 v x1 d1 => ?_⟩⟩
  by_cases hc : (d.flat && ds.all D.flat) = true
  · rw [if_pos hc] at k
    obtain ⟨c1, c2⟩ := Bool.and_eq_true_iff.mp hc
    refine ⟨a, xs, rfl, .inr (hq H1), flat_V d1 c1, flat_Vs (hl F1 X.w) c2, ?_⟩
    rw [inb_V d1 c1 (hl F1 X.w) c2]
    exact k F1 H1 _ x1 (.bl _)
  · rw [if_neg hc] at k; exact False.elim k
theorem em_inK {x : Str} {ds : List D} {p : Pos} (ha : PBm X F0 H0 W a ma) (hg : Gl X x) (h : GTup X.K X.mg x ds) (hdb : (x == ("__debug__" : Str)) = false := by decide) : PEm X F0 H0 W (.Compare a [.In] [.Name x p] pos) (eInK false ds ma) := by
  obtain ⟨A, hm, k⟩ := inK_read (F0 := F0) (H0 := H0) (W := W) (ma := ma) (neg := false) h
  exact PE.imp (pe_cmpR op_in_seq ha (pe_glob (v := .ref A) hg hm rfl hdb) rfl) k
theorem tm_inK {x : Str} {ds : List D} {p : Pos} (ha : PBm X F0 H0 W a ma) (hg : Gl X x) (h : GTup X.K X.mg x ds) (hdb : (x == ("__debug__" : Str)) = false := by decide) : PTm X F0 H0 W (.Compare a [.In] [.Name x p] pos) (tOf (eInK false ds ma)) := by
  obtain ⟨A, hm, k⟩ := inK_read (F0 := F0) (H0 := H0) (W := W) (ma := ma) (neg := false) h
  exact PT.imp (pt_cmpR op_in_seq ha (pe_glob (v := .ref A) hg hm rfl hdb) rfl) (test_of k _ rfl)

/-! ### list(range(n)) -/
def eLrng (ma : EM) : EM := fun ρ => (ma ρ).bind fun d => match d with
  | .int j => if decide (0 ≤ j) && decide (j ≤ 1000000) then .ok (.lst ((List.range j.toNat).map fun i : Nat => .int i)) else .no
  | _ => .no
theorem ints_dat {K : KW} {mg : Str → Option Value} {F : Hp} (f : Nat → Int) : ∀ l : List Nat, DatL K mg F (l.map fun i => V.int (f i)) (l.map fun i => D.int (f i))
  | [] => .nil
  | _ :: l => .cons (.int _) (ints_dat f l)
theorem fm_lrng {p1 p2 q : Pos} (hc : X.calm = true) (hg : Gl X "list") (hm : X.mg "list" = none) (hg2 : Gl X "range") (hm2 : X.mg "range" = none) (ha : PBm X F0 H0 W a ma)
    (na : starEach [a] X.env = (false, eval a X.env) :: starEach [] X.env := by rfl) (na2 : starEach [.Call (.Name "range" p2) [a] [] q] X.env = (false, eval (.Call (.Name "range" p2) [a] [] q) X.env) :: starEach [] X.env := by rfl) :
    PFm X F0 H0 W (.Call (.Name "list" p1) [.Call (.Name "range" p2) [a] [] q] [] pos) (eLrng ma) := by
  refine PE.imp (pe_listRg hc hg hm (prg_1 hg2 hm2 ha na) na2) fun σ H Q ⟨F, ρ, r, g⟩ => ?_
  refine ⟨F, ρ, r, g.bind.imp fun d k F1 H1 v x1 d1 => ?_⟩
  split at k
  · rename_i j
    by_cases hj : (decide (0 ≤ j) && decide (j ≤ 1000000)) = true
    · rw [if_pos hj] at k
      simp only [Bool.and_eq_true, decide_eq_true_eq] at hj
      refine ⟨j, d1.int, RgOk.of_le (by omega) (by omega) (by omega) (by omega), fun p n => ?_⟩
      have e : rgV 0 j = (List.range j.toNat).map fun i : Nat => V.int (i : Int) := by unfold rgV; simp
      rw [e]
      exact k F1 _ p ⟨x1.ff, x1.fh.trans (same_upd n), x1.hh.trans (same_upd n), x1.nw⟩ (x1.fh.free n) (x1.hh.free n) ⟨_, upd_same, ints_dat (fun i => (i : Int)) _⟩
    · rw [if_neg hj] at k; exact False.elim k
  · exact False.elim k

/-! ### ints in lists: sorted, min, sum -/
def D.ints : List D → Option (List Int)
  | [] => some []
  | .int i :: r => (D.ints r).map (i :: ·)
  | _ => none
theorem ints_V {K : KW} {mg : Str → Option Value} {F : Hp} : ∀ {vs : List V} {ds : List D} {xs : List Int}, DatL K mg F vs ds → D.ints ds = some xs → vs = xs.map V.int
  | _, _, _, .nil, h => by cases h; rfl
  | _, _, _, .cons (d := d) (ds := ds) hv l, h => by
    cases d with
    | int x =>
      have h1 : (D.ints ds).map (x :: ·) = some _ := h
      cases q : D.ints ds with
      | none => rw [q] at h1; cases h1
      | some r =>
        rw [q] at h1; cases h1
        cases hv
        rw [ints_V l q]
        rfl
    | _ => cases h
def insI (x : Int) : List Int → List Int
  | [] => [x]
  | y :: r => if x ≤ y then x :: y :: r else y :: insI x r
def sortI : List Int → List Int
  | [] => []
  | x :: r => insI x (sortI r)
theorem insI_perm (x : Int) : ∀ l : List Int, (insI x l).Perm (x :: l)
  | [] => .refl _
  | y :: r => by
    unfold insI
    split
    · exact .refl _
    · exact ((insI_perm x r).cons y).trans (List.Perm.swap x y r)
theorem sortI_perm : ∀ l : List Int, (sortI l).Perm l
  | [] => .refl _
  | x :: r => (insI_perm x _).trans ((sortI_perm r).cons x)
theorem insI_sorted (x : Int) : ∀ l : List Int, l.Pairwise (· ≤ ·) → (insI x l).Pairwise (· ≤ ·)
  | [], _ => List.pairwise_singleton _ _
  | y :: r, h => by
    obtain ⟨h1, h2⟩ := List.pairwise_cons.mp h
    unfold insI
    split
    · rename_i c
      exact List.pairwise_cons.mpr ⟨fun z hz => (List.mem_cons.mp hz).elim (fun e => e ▸ c) fun hz => Int.le_trans c (h1 z hz), h⟩
    · rename_i c
      refine List.pairwise_cons.mpr ⟨fun z hz => ?_, insI_sorted x r h2⟩
      rcases List.mem_cons.mp ((insI_perm x r).mem_iff.mp hz) with e | hz
      · rw [e]; omega
      · exact h1 z hz
theorem sortI_sorted : ∀ l : List Int, (sortI l).Pairwise (· ≤ ·)
  | [] => .nil
  | x :: r => insI_sorted x _ (sortI_sorted r)
theorem sorted_one {l m : List Int} (p : l.Perm m) (h1 : l.Pairwise (· ≤ ·)) (h2 : m.Pairwise (· ≤ ·)) : l = m := List.Perm.eq_of_pairwise (fun a b _ _ c d => Int.le_antisymm c d) h1 h2 p
def bSorted : List D → Option D
  | [.lst ds] => (D.ints ds).bind fun ns => if ns.length < 64 then some (.lst ((sortI ns).map D.int)) else none
  | [.dct false ps] => (D.ints (ps.map (·.1))).bind fun ns => if ns.length < 64 then some (.lst ((sortI ns).map D.int)) else none
  | _ => none
theorem intL_dat {K : KW} {mg : Str → Option Value} {F : Hp} : ∀ l : List Int, DatL K mg F (l.map V.int) (l.map D.int)
  | [] => .nil
  | _ :: l => .cons (.int _) (intL_dat l)
theorem DatK.intKeys {K : KW} {mg : Str → Option Value} {F : Hp} : ∀ {kvs : List (Key × V)} {ps : List (D × D)} {ns : List Int}, DatK K mg F kvs ps → D.ints (ps.map (·.1)) = some ns → kvs.map (·.1) = ns.map Sum.inl
  | _, _, _, .nil, h => by cases h; rfl
  | _, _, _, .cons (k := k) (ds := ds) hv l, h => by
    cases k with
    | inl x =>
      have h1 : (D.ints (ds.map (·.1))).map (x :: ·) = some _ := h
      cases q : D.ints (ds.map (·.1)) with
      | none => rw [q] at h1; cases h1
      | some r =>
        rw [q] at h1; cases h1
        rw [List.map_cons, DatK.intKeys l q]
        rfl
    | inr x => cases h
theorem cm_sorted (hc : X.calm = true) : CallM X (.builtin "sorted") bSorted := by
  rintro pins s σ H xs us Q I r ⟨F, ds, d, fh, l, e, k⟩
  unfold bSorted at e
  split at e
  · rename_i ds
    obtain ⟨v, rfl, hx⟩ := l.one
    obtain ⟨a, vs, rfl, h1, l1⟩ := hx.lst fh
    cases q : D.ints ds with
    | none => rw [q] at e; cases e
    | some ns =>
      rw [q] at e
      have e' : (if ns.length < 64 then some (D.lst ((sortI ns).map D.int)) else none) = some d := e
      split at e'
      · rename_i h64
        cases e'
        have ev := ints_V l1 q
        subst ev
        refine cr_sorted pins s σ H _ us Q I r ⟨a, ns, rfl, SqL.of h1, h64, fun ns' p hp hs n => ?_⟩
        have en : ns' = sortI ns := sorted_one (hp.trans (sortI_perm ns).symm) hs (sortI_sorted ns)
        subst en
        exact lst_new fh (intL_dat _) k p n
      · cases e'
  · rename_i ps
    obtain ⟨v, rfl, hx⟩ := l.one
    obtain ⟨a, kvs, rfl, h1, l1⟩ := hx.dctK fh
    cases q : D.ints (ps.map (·.1)) with
    | none => rw [q] at e; cases e
    | some ns =>
      rw [q] at e
      have e' : (if ns.length < 64 then some (D.lst ((sortI ns).map D.int)) else none) = some d := e
      split at e'
      · rename_i h64
        cases e'
        refine call_sortedDI hc pins s σ H _ us Q I r ⟨a, kvs, ns, rfl, h1, l1.intKeys q, h64, fun ns' p hp hs n => ?_⟩
        have en : ns' = sortI ns := sorted_one (hp.trans (sortI_perm ns).symm) hs (sortI_sorted ns)
        subst en
        exact lst_new fh (intL_dat _) k p n
      · cases e'
  · cases e
def minI : List Int → Int
  | [] => 0
  | [x] => x
  | x :: r => if x ≤ minI r then x else minI r
theorem minI_ok : ∀ l : List Int, l ≠ [] → minI l ∈ l ∧ ∀ y ∈ l, minI l ≤ y
  | [], h => absurd rfl h
  | [x], _ => ⟨List.mem_singleton.mpr rfl, fun y hy => by rw [List.mem_singleton.mp hy]; exact Int.le_refl _⟩
  | x :: y :: r, _ => by
    obtain ⟨h1, h2⟩ := minI_ok (y :: r) (fun z => nomatch z)
    have e : minI (x :: y :: r) = if x ≤ minI (y :: r) then x else minI (y :: r) := rfl
    rw [e]
    split
    · rename_i c
      exact ⟨List.mem_cons_self, fun z hz => (List.mem_cons.mp hz).elim (fun q => by rw [q]; exact Int.le_refl _) fun hz => Int.le_trans c (h2 z hz)⟩
    · rename_i c
      exact ⟨List.mem_cons_of_mem _ h1, fun z hz => (List.mem_cons.mp hz).elim (fun q => by rw [q]; omega) fun hz => h2 z hz⟩
def bMin : List D → Option D
  | [.lst ds] => (D.ints ds).bind fun ns => if 0 < ns.length then some (.int (minI ns)) else none
  | _ => none
theorem cm_min (hc : X.calm = true) : CallM X (.builtin "min") bMin := by
  rintro pins s σ H xs us Q I r ⟨F, ds, d, fh, l, e, k⟩
  unfold bMin at e
  split at e
  · rename_i ds
    obtain ⟨v, rfl, hx⟩ := l.one
    obtain ⟨a, vs, rfl, h1, l1⟩ := hx.lst fh
    cases q : D.ints ds with
    | none => rw [q] at e; cases e
    | some ns =>
      rw [q] at e
      have e' : (if 0 < ns.length then some (D.int (minI ns)) else none) = some d := e
      split at e'
      · rename_i h0
        cases e'
        have ev := ints_V l1 q
        subst ev
        refine cr_min hc pins s σ H _ us Q I r ⟨a, ns, rfl, SqL.of h1, h0, fun m hm hle => ?_⟩
        obtain ⟨g1, g2⟩ := minI_ok ns (fun z => by rw [z] at h0; exact absurd h0 (Nat.lt_irrefl 0))
        have em : m = minI ns := Int.le_antisymm (hle _ g1) (g2 _ hm)
        subst em
        exact k F H _ (Ext.refl fh) (.int _)
      · cases e'
  · cases e
def bSum : List D → Option D
  | [.lst ds] => (D.ints ds).map fun ns => .int ns.sum
  | _ => none
theorem cm_sum (hc : X.calm = true) : CallM X (.builtin "sum") bSum := by
  rintro pins s σ H xs us Q I r ⟨F, ds, d, fh, l, e, k⟩
  unfold bSum at e
  split at e
  · rename_i ds
    obtain ⟨v, rfl, hx⟩ := l.one
    obtain ⟨a, vs, rfl, h1, l1⟩ := hx.lst fh
    cases q : D.ints ds with
    | none => rw [q] at e; cases e
    | some ns =>
      rw [q] at e; cases e
      have ev := ints_V l1 q
      subst ev
      exact cr_sum hc pins s σ H _ us Q I r ⟨a, ns, rfl, SqL.of h1, k F H _ (Ext.refl fh) (.int _)⟩
  · cases e

/-! ### methods of texts and lists -/
theorem mm_join : MetM X "str.join" mJoin := by
  rintro pins s σ H x xs v us Q I rx rs ⟨F, dx, ds, d, fh, hx, l, e, k⟩
  unfold mJoin at e
  split at e
  · rename_i ys
    obtain ⟨w, rfl, hy⟩ := l.one
    split at e
    · rename_i _ _ y zs h2
      split at e
      · rename_i hl
        cases e
        obtain ⟨a, vs, rfl, h1, l1⟩ := hy.lst fh
        have ev := strs_V l1 h2
        subst ev
        exact mt_join pins s σ H _ _ v us Q I rx rs ⟨y, a, zs, hx.str, rfl, .inl (SqL.of h1), Nat.le_trans hl (by decide), k F H _ (Ext.refl fh) (.str _)⟩
      · cases e
    · cases e
  · cases e
def mSplit (x : D) : List D → Option D
  | [.str y] => match x with
    | .str z => if (y.length == 0) = false ∧ z.length + 2 ≤ lim then some (.lst ((Txt.split z y).map D.str)) else none
    | _ => none
  | _ => none
theorem strL_dat {K : KW} {mg : Str → Option Value} {F : Hp} : ∀ l : List Str, DatL K mg F (l.map V.str) (l.map D.str)
  | [] => .nil
  | _ :: l => .cons (.str _) (strL_dat l)
theorem mm_split : MetM X "str.split" mSplit := by
  rintro pins s σ H x xs v us Q I rx rs ⟨F, dx, ds, d, fh, hx, l, e, k⟩
  unfold mSplit at e
  split at e
  · obtain ⟨w, rfl, hy⟩ := l.one
    split at e
    · split at e
      · rename_i hl
        cases e
        exact mt_split pins s σ H _ _ v us Q I rx rs ⟨_, _, hx.str, by rw [hy.str], hl.1, lim_line hl.2, lst_new fh (strL_dat _) k⟩
      · cases e
    · cases e
  · cases e
def mIndexS (x : D) : List D → Option D
  | [.str y] => match x with
    | .str z => match Builtin.Str.occurrences z y 0 z.length 1 with
      | i :: _ => some (.int (i : Nat))
      | [] => none
    | _ => none
  | _ => none
theorem mm_indexS : MetM X "str.index" mIndexS := by
  rintro pins s σ H x xs v us Q I rx rs ⟨F, dx, ds, d, fh, hx, l, e, k⟩
  unfold mIndexS at e
  split at e
  · obtain ⟨w, rfl, hy⟩ := l.one
    split at e
    · split at e
      · rename_i i rest ho
        cases e
        exact mt_sindex pins s σ H _ _ v us Q I rx rs ⟨_, _, i, rest, hx.str, by rw [hy.str], ho, k F H _ (Ext.refl fh) (.int _)⟩
      · cases e
    · cases e
  · cases e
def idxOf (x : D) : List D → Nat → Option Nat
  | [], _ => none
  | z :: r, n => if z.eqb x then some n else idxOf x r (n + 1)
theorem idxOf_ok {x : D} : ∀ {l : List D} {n j : Nat}, idxOf x l n = some j → ∃ i, j = n + i ∧ (∃ z, l[i]? = some z ∧ z.eqb x = true) ∧ ∀ k z, k < i → l[k]? = some z → z.eqb x = false
  | [], _, _, h => by cases h
  | z :: r, n, j, h => by
    unfold idxOf at h
    split at h
    · rename_i c
      cases h
      exact ⟨0, rfl, ⟨z, rfl, c⟩, fun k _ hk => absurd hk (Nat.not_lt_zero _)⟩
    · rename_i c
      obtain ⟨i, h1, ⟨z', h2, h3⟩, h4⟩ := idxOf_ok h
      refine ⟨i + 1, by omega, ⟨z', h2, h3⟩, fun k w hk hw => ?_⟩
      cases k with
      | zero => cases hw; exact Bool.eq_false_iff.mpr c
      | succ k => exact h4 k w (by omega) hw
def mIndexL (x : D) : List D → Option D
  | [y] => match x with
    | .lst ds => if SeqAt.shaped (D.lst ds).py && SeqAt.shaped y.py then (idxOf y ds 0).map fun i => .int (i : Nat) else none
    | _ => none
  | _ => none
theorem pys_get : ∀ {ds : List D} {i : Nat} {d : D}, ds[i]? = some d → (D.pys ds)[i]? = some d.py
  | _ :: _, 0, _, h => by cases h; rfl
  | _ :: r, i + 1, _, h => pys_get (ds := r) (i := i) h
theorem pys_back : ∀ {ds : List D} {i : Nat} {z : PyData}, (D.pys ds)[i]? = some z → ∃ d, ds[i]? = some d ∧ z = d.py
  | d :: _, 0, _, h => by cases h; exact ⟨d, rfl, rfl⟩
  | _ :: r, i + 1, _, h => pys_back (ds := r) (i := i) h
theorem mm_indexL (hu : X.A.units + 65 < cLine) : MetM X "list.index" mIndexL := by
  rintro pins s σ H x xs v us Q I rx rs ⟨F, dx, ds, d, fh, hx, l, e, k⟩
  unfold mIndexL at e
  split at e
  · obtain ⟨w, rfl, hy⟩ := l.one
    split at e
    · rename_i _ y _ ys
      split at e
      · rename_i hc
        obtain ⟨c1, c2⟩ := Bool.and_eq_true_iff.mp hc
        cases q : idxOf y ys 0 with
        | none => rw [q] at e; cases e
        | some j =>
          rw [q] at e; cases e
          obtain ⟨i, h1, ⟨z, h2, h3⟩, h4⟩ := idxOf_ok q
          have ej : j = i := by omega
          subst ej
          obtain ⟨a, vs, rfl, ha, l1⟩ := hx.lst fh
          exact mt_indexD hu pins s σ H _ _ v us Q I rx rs ⟨a, w, y.py, D.pys ys, j, z.py, rfl, rfl, hx.dp fh (SeqAt.canLay_of_shaped c1), hy.dp fh (SeqAt.canLay_of_shaped c2), c1, c2, pys_get h2, h3, fun m z' hm hz => by
            obtain ⟨d', hd, rfl⟩ := pys_back hz
            exact h4 m d' hm hd, k F H _ (Ext.refl fh) (.int _)⟩
      · cases e
    · cases e
  · cases e

/-! ### a, b, c = x, y, z -/
def sPar3 (i j l : Nat) (ma mb mc : EM) : SM := fun ρ => (aAll [ma, mb, mc] ρ).out ρ fun ds => match ds with
  | [x, y, z] => .nx (((ρ.set i (some (.val x))).set j (some (.val y))).set l (some (.val z)))
  | _ => .no
theorem sm_par3 {i j l : Nat} {x y z : Str} {px py pz pt : Pos} {kt k2 : Nat} {pt2 : Pos} (hc : X.calm = true) (hN : X.N.Nodup) (hi : X.N[i]? = some x) (hj : X.N[j]? = some y) (hl : X.N[l]? = some z) (hij : i ≠ j) (hil : i ≠ l) (hjl : j ≠ l)
    (hx : X.env.scope.names.lookup x = some .local) (hy : X.env.scope.names.lookup y = some .local) (hz : X.env.scope.names.lookup z = some .local) (ha : PAm X F0 H0 W [a, b, c] [ma, mb, mc])
    (hw : swappedStores [.Tuple [.Name x px, .Name y py, .Name z pz] kt pt] (.Tuple [a, b, c] k2 pt2) X.env = pure (some [x, y, z]))
    (hs : swapsWithSole [.Tuple [.Name x px, .Name y py, .Name z pz] kt pt] (.Tuple [a, b, c] k2 pt2) pos.line X.env = pure false := by rfl) :
    PSm X F0 H0 W (.Assign [.Tuple [.Name x px, .Name y py, .Name z pz] kt pt] (.Tuple [a, b, c] k2 pt2) pos) (sPar3 i j l ma mb mc) := by
  refine PS.imp (ps_par3 hc hN hi hj hl hij hil hjl hx hy hz ha hw hs) fun D σ H ⟨F, ρ, r, h⟩ => ⟨F, ρ, r, (OutOk.got r h).imp fun ds k F' H' vs x l => ?_⟩
  split at k
  · cases l with | cons h1 l => cases l with | cons h2 l => cases l with | cons h3 l =>
    cases l
    exact ⟨_, _, _, rfl, k F' _ H' ((((r.ext x).put i h1).put j h2).put _ h3)⟩
  · exact False.elim k

/-! ### d.pop(k) of a dict that a slot alone holds -/
def sDpop (i : Nat) (mk : EM) : SM := fun ρ => match slAt ρ i with
  | some (.own (.dct false ps)) => (mk ρ).out ρ fun k => if D.keyOk false k && (D.find k ps).isSome then .nx (ρ.set i (some (.own (.dct false (D.drop ps k))))) else .no
  | _ => .no
theorem sm_dpop (i : Nat) {x : Str} {p1 p2 p3 p4 : Pos} (he : PBm X F0 H0 W e m) (hN : X.N[i]? = some x := by rfl) (hv : Vis X.env.scope x := by first | exact Or.inl rfl | exact Or.inr (Or.inl rfl) | exact Or.inr (Or.inr rfl)) (hd : (x == ("__debug__" : Str)) = false := by decide) (hcd : (x == ("__classdict__" : Str)) = false := by decide)
    (m1 : M1 X (.Name x p1) "pop" p2 e p3 := by exact ⟨rfl, rfl, rfl, rfl⟩) (hsw : swapsWith (.Call (.Attribute (.Name x p1) "pop" p2) [e] [] p3) none p4.line X.env = pure false := by rfl) :
    PSm X F0 H0 W (.Expr (.Call (.Attribute (.Name x p1) "pop" p2) [e] [] p3) p4) (sDpop i m) := by
  refine PS.imp (ps_expr (pe_dpop1 (pe_var hN hv hd hcd) he m1) hsw) fun En σ H ⟨F, ρ, r, h⟩ => ?_
  unfold sDpop at h
  split at h
  · rename_i ps e0
    obtain ⟨v, hv, a, rfl, n, kvs, ha, l⟩ := r.sl i _ (slAt_some e0)
    refine ⟨_, hv, a, rfl, .inl ⟨kvs, .inl ha⟩, F, ρ, r, (OutOk.got r h).imp fun d k F' H' w x q => ?_⟩
    by_cases hc : (D.keyOk false d && (D.find d ps).isSome) = true
    · rw [if_pos hc] at k
      obtain ⟨c1, c2⟩ := Bool.and_eq_true_iff.mp hc
      obtain ⟨j, hj⟩ := key_ex c1
      have ew := key_V q hj
      have ha' := x.hh _ _ ha
      rcases find_K hj l with ⟨_, h2⟩ | ⟨u, d', h1, _, _⟩
      · rw [h2] at c2; cases c2
      · exact ⟨kvs, j, u, ha', ew, h1, k F' σ _ ((r.ext x).write (slAt_some e0) hv ⟨_, upd_same, DatK.drop hj (l.mono x.ff)⟩)⟩
    · rw [if_neg hc] at k; exact False.elim k
  · exact False.elim h
end
end L2.Pv

set_option Elab.async false
set_option linter.all false
set_option maxRecDepth 100000
set_option maxHeartbeats 4000000
set_option autoImplicit false
/-! enumerate, zip. -/
namespace L2.Pv
open PySem PySem.Spec PyProof.Rows

section
variable {prog : Program} {w : World} {A : Around} {E : Value → Shared → Prop} {s : Shared}
set_option maxHeartbeats 8000000 in
theorem meets_enum_newB {v : Value} {o : Obj} {H : Heap → Prop} (B : Begins v o H) :
    Meets (Builtin.«enumerate.__new__» ⟨[.type "enumerate", v], []⟩) (fun _ R s => H s.heap ∧
      R (.ok (.ret (.ref (s.heap.push o).objs.size))) { s with heap := (s.heap.push o).push { cls := .type "enumerate", data := .fields #[.none, .bool false, .ref s.heap.objs.size, rawInt 0, .none, .none] } }) :=
  .of_wp fun prog w A R s h => by
    obtain ⟨hp, g, d, tk, os⟩ := s; obtain ⟨h1, h⟩ := h
    have hsub := sub_enumerate
    have q1 : ∀ {A' : Around} {E : Value → Shared → Prop} {Q : Value → Shared → Prop}, Q (.ref hp.objs.size) ⟨hp.push o, g, d, tk, os⟩ → wpAny (model prog w) A' (pyIter v) Q E ⟨hp, g, d, tk, os⟩ :=
      fun q => B.iter prog w _ _ ⟨hp, g, d, tk, os⟩ _ h1 q
    wp_walk using q1
    refine wpAny_stack_any fun st => wpAny_pure ?_
    split
    · rename_i c _ _ _ _ _
      cases (c == Value.type "enumerate")
      · wp_walk using q1
        exact ⟨_, rfl, h⟩
      · wp_walk using q1
        exact ⟨_, rfl, h⟩
    · wp_walk using q1
      exact ⟨_, rfl, h⟩
theorem enum_begins1 {v : Value} {o : Obj} {H : Heap → Prop} {Q : Value → Shared → Prop} (B : Begins v o H) (h1 : H s.heap)
    (h : ∀ h', IsEnum h' (s.heap.objs.size + 1) s.heap.objs.size 0 .none → h'.get? s.heap.objs.size = some o → h'.objs.size = s.heap.objs.size + 2 →
      (∀ b o, s.heap.get? b = some o → h'.get? b = some o) → Q (.ref (s.heap.objs.size + 1)) { s with heap := h' }) :
    wpAny (model prog w) A (call (.type "enumerate") [v]) Q E s := by
  refine callType_new F.called_enumerate (by decide) (F.typeCall_enumerate_1 _) (F.newCall_enumerate_1 _) (fun obj => F.args_object_init_2 obj _) F.entry_enumerate_new
    (meets_enum_newB B) ⟨h1, ?_⟩
  have hz : (s.heap.push o).objs.size = s.heap.objs.size + 1 := Heap.size_push ..
  show _ ∧ _
  rw [hz]
  have he : IsEnum ((s.heap.push o).push { cls := .type "enumerate", data := .fields #[.none, .bool false, .ref s.heap.objs.size, rawInt 0, .none, .none] }) (s.heap.objs.size + 1) s.heap.objs.size 0 .none := by
    have := Heap.get?_push_size (s.heap.push o) (o := { cls := .type "enumerate", data := .fields #[.none, .bool false, .ref s.heap.objs.size, rawInt 0, .none, .none] }) rfl
    rw [hz] at this; exact this
  refine ⟨⟨_, he, rfl⟩, h _ he (Heap.get?_push_of_some _ (Heap.get?_push_size _ B.free)) (by rw [Heap.size_push, hz]) fun b o x => Heap.get?_push_of_some _ (Heap.get?_push_of_some _ x)⟩
end

/-- enumerate over a tuple -/
def IteT (K : PySem.W.Frag) (a : Addr) : It :=
  ⟨fun i H => ∃ (xs : List V) (x : V), SqT K H a xs ∧ xs[i]? = some x, fun i H v H' => ∃ T x, v = .ref T ∧ H T = none ∧ H' = upd H T (.tup [.int (i : Nat), x]) ∧ ∀ xs, SqT K H a xs → xs[i]? = some x, fun i H => ∃ xs : List V, SqT K H a xs ∧ xs.length ≤ i⟩
theorem turn_enumT {P : Program} {w : World} {K : PySem.W.Frag} {elts : List Expr} {kk : Nat} {tpos : Pos} (a e it : Addr) :
    Turn P w K (.Tuple elts kk tpos) (IteT K a) [e, it] e (fun i h => (∃ old, IsEnum h e it ((i : Nat) : Int) old) ∧ h.IsTupleIter it a i ∧ e ≠ it ∧ a ≠ it ∧ a ≠ e) where
  mem := by simp
  obj := fun i h st b hb => by
    obtain ⟨⟨old, he⟩, ⟨o, ho, hc, hd⟩, _⟩ := st
    have e' : b = e ∨ b = it := by simpa using hb
    rcases e' with z | z
    · rw [z]; exact ⟨_, he, fun v q => nomatch q⟩
    · rw [z]; exact ⟨o, ho, fun v q => by rw [hd] at q; cases q⟩
  keep := fun i h h' st k => let ⟨⟨old, he⟩, hi, hne⟩ := st; ⟨⟨old, k e (by simp) _ he⟩, hi.at fun o q => k it (by simp) o q, hne⟩
  item := by
    intro X hP hw hK hc i pins s σ H E I hf st hg
    subst hP hw hK
    obtain ⟨⟨old, he⟩, hit, hne, hai, hae⟩ := st
    obtain ⟨xs, x, hq, hx⟩ := hg
    obtain ⟨its, rv, p, hz⟩ := I.tuple hq
    obtain ⟨u, hu, ru⟩ := rv.get hx
    have hel : e < s.heap.objs.size := Heap.lt_size he
    have hil : it < s.heap.objs.size := by obtain ⟨_, q, _⟩ := hit; exact Heap.lt_size q
    have hlt : i < its.toArray.size := by have := (List.getElem?_eq_some_iff.mp hu).1; simpa using this
    refine wpAny_pyNext_enum_itemD (fp := [it, a]) (Draws.tuple (A := X.A.in1) (show X.A.in1.handled = none from I.ok.hd hc) it a hai its.toArray) he (St := fun i h => h.IsTupleIter it a i ∧ h.IsTuple a its.toArray) ⟨hit, show s.heap.IsTuple a its.toArray from p⟩ hlt hne (by intro h; rcases List.mem_cons.mp h with z | z; exact hne z; exact hae (List.mem_singleton.mp z).symm) fun y h' tk hy ho hs' hT hsz hk => ?_
    have ey : y = u := by
      have z : its.toArray[i]? = some u := by simpa using hu
      rw [z] at hy; cases hy; rfl
    subst ey
    refine ⟨_, rfl, wpAny_letOwnedTupleGo_enum (s := { s with heap := h', toks := tk + 1 }) ho fun h'' he' sb => ?_⟩
    have hT2 : h''.get? s.heap.objs.size = some { cls := .type "tuple", data := .seq #[.int i tk, y] } := (sb.2 _ (Nat.ne_of_gt hel)).trans hT
    have new : ObjOk X.prog X.w (upd H s.heap.objs.size (.tup [.int (i : Nat), x])) h'' s.heap.objs.size (.tup [.int (i : Nat), x]) :=
      ⟨by show 2 ≤ sizeLine; decide, [.int i tk, y], .cons ⟨_, rfl⟩ (.cons ru .nil), ⟨_, hT2, rfl, _, rfl⟩⟩
    have I1 : Inv X pins σ (upd H s.heap.objs.size (.tup [.int (i : Nat), x])) { s with heap := h'', toks := tk + 1 } :=
      I.turnedNew (ch := [e, it]) (fun b ob hb q => (sb.2 b (fun z => hb (by simp [z]))).trans (hk b ob (fun z => hb (by simp [z])) (fun z => hb (by simp [z])) q)) hf (Nat.le_refl _) new
    refine ⟨.ref s.heap.objs.size, _, I1, rfl, ⟨_, x, rfl, I.hok.fresh (Nat.le_refl _), rfl, fun ys hy => by rw [I.tuple_inj hy hq]; exact hx⟩, ⟨⟨y, ?_⟩, hs'.1.at fun o q => (sb.2 it (Ne.symm hne)).trans q, hne, hai, hae⟩, fun b hb => ?_⟩
    · have e1 : ((i + 1 : Nat) : Int) = (i : Int) + 1 := by omega
      rw [e1]; exact he'
    · have hb' : b < s.heap.objs.size := by
        have e' : b = e ∨ b = it := by simpa using hb
        rcases e' with z | z
        · rw [z]; exact hel
        · rw [z]; exact hil
      rw [upd_ne (Nat.ne_of_lt hb')]
      exact (hf b hb).1
  done := by
    intro X hP hw hK hc i pins s σ H E I hf st hg
    subst hP hw hK
    obtain ⟨⟨old, he⟩, hit, hne, hai, hae⟩ := st
    obtain ⟨xs, hq, hx⟩ := hg
    obtain ⟨its, rv, p, hz⟩ := I.tuple hq
    obtain ⟨f0, f1, f2, f3, f4, f5⟩ := hf it (by simp)
    have hl := rv.length
    have D : Draws X.prog X.w X.A.in1 it [it, a] i (fun _ _ => True) (fun j h => h.IsTupleIter it a j ∧ h.IsTuple a its.toArray ∧ j = i) :=
      { live := fun _ _ st => let ⟨o, ho, _⟩ := st.1; ⟨o, ho⟩
        frame := fun _ _ _ st hk => ⟨st.1.at fun o e => hk it (by simp) o e, st.2.1.at fun o e => hk a (by simp) o e, st.2.2⟩
        item := fun j s Q E hj st hQ => absurd st.2.2 (by omega)
        done := fun s Q E st hE => wpAny_nextOf_tuple_end (A := X.A.in1) (show X.A.in1.handled = none from I.ok.hd hc) st.1 st.2.1 (by simp; omega) hE }
    exact wpAny_pyNext_enum_endD D he ⟨hit, p, rfl⟩ fun h' eb => ⟨rfl, I.turned (t' := s.toks) (fun b o hb q => eb b o hb q) f0 f1 f3 f4 f5⟩
  self := fun A i s Q E st h => let ⟨⟨_, he⟩, _⟩ := st; wpAny_pyIter_enum he h

/-- the items with their numbers from i -/
def enumL : Nat → List D → List D
  | _, [] => []
  | i, d :: ds => .tup [.int (i : Nat), d] :: enumL (i + 1) ds
theorem enumL_get : ∀ (ds : List D) (k i : Nat), (enumL k ds)[i]? = ds[i]?.map fun d => D.tup [.int ((k + i : Nat) : Int), d]
  | [], _, _ => rfl
  | d :: ds, k, 0 => rfl
  | d :: ds, k, i + 1 => by
    show (enumL (k + 1) ds)[i]? = _
    rw [enumL_get ds (k + 1) i, List.getElem?_cons_succ, show k + 1 + i = k + (i + 1) from by omega]
theorem enumL_len : ∀ (ds : List D) (k : Nat), (enumL k ds).length = ds.length
  | [], _ => rfl
  | d :: ds, k => by
    show (enumL (k + 1) ds).length + 1 = _
    rw [enumL_len ds (k + 1)]; rfl
def enumD : D → Option (List D)
  | .lst ds => some (enumL 0 ds)
  | .tup ds => some (enumL 0 ds)
  | .scr ns => some (enumL 0 (ns.map D.int))
  | _ => none
def iEn (m : EM) : AM := fun ρ => (m ρ).bind fun d => R.of (enumD d)
section
variable {X : Cx} {F0 H0 : Hp} {W : WX} {e : Expr} {m : EM} {pos : Pos}
theorem enum_new {K : KW} {mg : Str → Option Value} {F1 H1 H3 : Hp} {x : V} {y : V} {d : D} {i : Nat} {T : Addr} (s2 : Same F1 H1) (dv : Dat K mg F1 y d) (hn : H1 T = none) (e : H3 = upd H1 T (.tup [.int (i : Nat), y])) (ex : x = .ref T) :
    ∃ F3, Ext F1 H1 F3 H3 ∧ Dat K mg F3 x (.tup [.int (i : Nat), d]) := by
  subst e ex
  exact ⟨_, Ext.new s2 hn, .tup upd_same (.cons (.int _) (.cons (dv.mono (same_upd (s2.free hn))) .nil))⟩
theorem enum_okL {K : KW} {mg : Str → Option Value} {F : Hp} {a : Addr} {xs : List V} {ds : List D} (h : ∀ F1 H1, Same F F1 → Same F1 H1 → SqL K H1 a xs) (l : DatL K mg F xs ds) : ItOk K mg F (Ite K a) (enumL 0 ds) := fun i F1 H1 s1 s2 => by
  have q := h F1 H1 s1 s2
  refine ⟨fun d hd => ?_, fun hl => ⟨xs, q, by rw [l.len]; rw [enumL_len] at hl; exact hl⟩⟩
  rw [enumL_get, Nat.zero_add] at hd
  cases hd0 : ds[i]? with
  | none => rw [hd0] at hd; cases hd
  | some d0 =>
    rw [hd0] at hd; cases hd
    obtain ⟨v, hv, dv⟩ := l.getD hd0
    refine ⟨⟨xs, v, q, hv⟩, fun x H3 ⟨T, y, ex, hn, eH, z⟩ => ?_⟩
    have z := z xs q
    rw [hv] at z; cases z
    exact enum_new s2 (dv.mono s1) hn eH ex
theorem enum_okT {K : KW} {mg : Str → Option Value} {F : Hp} {a : Addr} {xs : List V} {ds : List D} (h : ∀ F1 H1, Same F F1 → Same F1 H1 → SqT K H1 a xs) (l : DatL K mg F xs ds) : ItOk K mg F (IteT K a) (enumL 0 ds) := fun i F1 H1 s1 s2 => by
  have q := h F1 H1 s1 s2
  refine ⟨fun d hd => ?_, fun hl => ⟨xs, q, by rw [l.len]; rw [enumL_len] at hl; exact hl⟩⟩
  rw [enumL_get, Nat.zero_add] at hd
  cases hd0 : ds[i]? with
  | none => rw [hd0] at hd; cases hd
  | some d0 =>
    rw [hd0] at hd; cases hd
    obtain ⟨v, hv, dv⟩ := l.getD hd0
    refine ⟨⟨xs, v, q, hv⟩, fun x H3 ⟨T, y, ex, hn, eH, z⟩ => ?_⟩
    have z := z xs q
    rw [hv] at z; cases z
    exact enum_new s2 (dv.mono s1) hn eH ex
theorem im_enum {p tpos : Pos} {elts : List Expr} {kk : Nat} (hg : Gl X "enumerate") (hm : X.mg "enumerate" = none) (he : PEm X F0 H0 W e m) (hs : starEach [e] X.env = [(false, eval e X.env)] := by rfl) :
    PIm X F0 H0 W (.Tuple elts kk tpos) (.Call (.Name "enumerate" p) [e] [] pos) (iEn m) := by
  refine ⟨fun pins s σ H R I ⟨F, ρ, r, g⟩ => ?_⟩
  refine Call_ (ld_blt I hg hm boot_enumerate (PyProof.Rows.callWith_type1 (thn ((pa_cons he pa_nil hs).run pos pins s σ H (fun vs H' => ∃ v, vs = [v] ∧ ∃ F' d ds, Ext F H F' H' ∧ Dat X.kw X.mg F' v d ∧ enumD d = some ds ∧ ∀ F' H' J, Ext F H F' H' → ItOk X.kw X.mg F' J ds → R J H') I ⟨F, ρ, r, g.bind.imp fun d k F' H' v x q => ?_⟩) fun us s1 ⟨vs, H1, I1, r1, q1⟩ => ?_) hs rfl))
  · obtain ⟨ds, e, k⟩ := k.of
    exact ⟨v, rfl, F', d, ds, x, q, e, k⟩
  obtain ⟨v, rfl, F1, d, ds, x, q, e, k⟩ := q1
  obtain ⟨u, rfl, r⟩ := vals1 r1
  have fp2 : ∀ b, b ∈ [s1.heap.objs.size + 1, s1.heap.objs.size] → FpOk X pins H1 b := fun b hb => by
    have e' : b = s1.heap.objs.size + 1 ∨ b = s1.heap.objs.size := by simpa using hb
    have hle : s1.heap.objs.size ≤ b := by
      rcases e' with z | z
      · rw [z]; exact Nat.le_add_right _ _
      · rw [z]; exact Nat.le_refl _
    exact I1.fpOk hle (I1.hok.fresh hle)
  cases q with
  | @tup a xs ds' h l =>
    cases e
    cases r
    have hq : SqT X.K H1 a xs := SqT.of (x.fh _ _ h)
    obtain ⟨its, rv, p, hz⟩ := I1.tuple hq
    have pt : s1.heap.IsTuple a its.toArray := p
    have hal : a < s1.heap.objs.size := by obtain ⟨_, q, _⟩ := p; exact Heap.lt_size q
    refine enum_begins1 (begins_tuple a its.toArray) pt fun h' he hit hsz hk => wpAny_pyIter_enum he ?_
    have I2 : Inv X pins σ H1 { s1 with heap := h' } := I1.kept (t' := s1.toks) hk
    exact ⟨s1.heap.objs.size + 1, [s1.heap.objs.size + 1, s1.heap.objs.size], _, _, H1, rfl, I2, turn_enumT a (s1.heap.objs.size + 1) s1.heap.objs.size, ⟨⟨.none, he⟩, ⟨_, hit, rfl, rfl⟩, Nat.succ_ne_self _, Nat.ne_of_lt hal, Nat.ne_of_lt (Nat.lt_succ_of_lt hal)⟩, fp2, k F1 H1 _ x (enum_okT (fun F2 H2 s1 s2 => SqT.of (s2 _ _ (s1 _ _ h))) l)⟩
  | @lst a xs ds' h l =>
    cases e
    cases r
    have hq : SqL X.K H1 a xs := SqL.of (x.fh _ _ h)
    obtain ⟨its, rv, p', hz⟩ := I1.list hq
    refine call_enumerate_list p'.isList fun h' he hit hsz hk => wpAny_pyIter_enum he ?_
    have I2 : Inv X pins σ H1 { s1 with heap := h' } := I1.kept (t' := s1.toks) hk
    exact ⟨s1.heap.objs.size + 1, [s1.heap.objs.size + 1, s1.heap.objs.size], _, _, H1, rfl, I2, turn_enum a (s1.heap.objs.size + 1) s1.heap.objs.size, ⟨⟨.none, he⟩, hit, Nat.succ_ne_self _⟩, fp2, k F1 H1 _ x (enum_okL (fun F2 H2 s1 s2 => SqL.of (s2 _ _ (s1 _ _ h))) l)⟩
  | @scr a ns h =>
    cases e
    cases r
    have hq : SqL X.K H1 a (ns.map V.int) := SqL.mono x.fh h
    obtain ⟨its, rv, p', hz⟩ := I1.list hq
    refine call_enumerate_list p'.isList fun h' he hit hsz hk => wpAny_pyIter_enum he ?_
    have I2 : Inv X pins σ H1 { s1 with heap := h' } := I1.kept (t' := s1.toks) hk
    refine ⟨s1.heap.objs.size + 1, [s1.heap.objs.size + 1, s1.heap.objs.size], _, _, H1, rfl, I2, turn_enum a (s1.heap.objs.size + 1) s1.heap.objs.size, ⟨⟨.none, he⟩, hit, Nat.succ_ne_self _⟩, fp2, k F1 H1 _ x (enum_okL (fun F2 H2 s1 s2 => SqL.mono s2 (SqL.mono s1 h)) ?_)⟩
    have go : ∀ ns : List Int, DatL X.kw X.mg F1 (ns.map V.int) (ns.map D.int) := fun ns => by
      induction ns with
      | nil => exact .nil
      | cons n ns ih => exact .cons (.int n) ih
    exact go ns
  | _ => cases e
end

/-! ### code that is never come to -/
def eNo : EM := fun _ => .no
def sNo : SM := fun _ => .no
section
variable {X : Cx} {F0 H0 : Hp} {W : WX} {e : Expr}
theorem em_never : PEm X F0 H0 W e eNo := ⟨fun pins s σ H Q I ⟨F, ρ, r, g⟩ => False.elim g⟩
theorem fm_never : PFm X F0 H0 W e eNo := ⟨fun pins s σ H Q I ⟨F, ρ, r, g⟩ => False.elim g⟩
theorem sm_never {st : Stmt} : PSm X F0 H0 W st sNo := ⟨fun pins s σ H D I ⟨F, ρ, r, g⟩ => False.elim g⟩
end
end L2.Pv

set_option Elab.async false
set_option linter.all false
set_option maxRecDepth 100000
set_option maxHeartbeats 4000000
set_option autoImplicit false
/-! Lists of dicts. -/
namespace L2.Pv
open PySem PySem.Spec PyProof.Rows
theorem list_dR {X : Cx} (hc : X.calm = true) : CallR X (.type "list") (fun xs H Q => ∃ p kvs, xs = [V.ref p] ∧ Rd H p (.dK kvs) ∧ ∀ q, H q = none → Q (.ref q) (upd H q (.lst (kvs.map fun kv => kV kv.1)))) := by
  rintro pins s σ H xs us Q I r ⟨p, kvs, rfl, hk, q⟩
  obtain ⟨u, rfl, rx⟩ := vals1 r
  cases rx
  obtain ⟨z, lo, vs, rk, hd⟩ := (show ObjOk X.prog X.w H s.heap p (.dK kvs) from hk.ok I.hok)
  obtain ⟨ep, hat⟩ := hd.dictAt
  have hl : kvs.length = vs.length := Paired.length rk
  refine PySem.W.kdl_call (PySem.W.kdl_dict (knd := mixKind X.prog X.w) (kvs := vs) (ep := ep) lo) (I.ok.hd hc) hat (by rw [← hl]; exact z) fun h' tk acc c keep hS hacc => ?_
  have ml : (kvs.map fun kv => kV kv.1).length = kvs.length := List.length_map _
  have new : ObjOk X.prog X.w (upd H s.heap.objs.size (.lst (kvs.map fun kv => kV kv.1))) h' s.heap.objs.size (.lst (kvs.map fun kv => kV kv.1)) := by
    refine ⟨by rw [ml]; exact z, acc.toList, c, vals_of_at (by have := hacc.1; simp [this, hl]) fun j x w h1 h2 => ?_, ?_⟩
    · obtain ⟨k, y, hky, hi⟩ := hacc.2 j w (by rw [← Array.getElem?_toList]; exact h2)
      have e1 : (kvs.map (·.1))[j]? = some k := by rw [KV.keys rk, List.getElem?_map, hky]; rfl
      rw [List.getElem?_map] at h1 e1
      cases hj : kvs[j]? with
      | none => rw [hj] at h1; cases h1
      | some kv =>
        rw [hj] at h1 e1
        cases h1; cases e1
        exact keyIs_rel hi
    · rw [Array.toArray_toList]; exact hS
  exact ⟨.ref s.heap.objs.size, _, I.laid (t' := tk) keep (Nat.le_refl _) new, rfl, q _ (I.hok.fresh (Nat.le_refl _))⟩
def bListD : List D → Option D
  | [.lst ds] => some (.lst ds)
  | [.tup ds] => some (.lst ds)
  | [.dct false ps] => some (.lst (ps.map (·.1)))
  | _ => none
theorem DatK.keyL {K : KW} {mg : Str → Option Value} {F : Hp} : ∀ {kvs : List (Key × V)} {ps : List (D × D)}, DatK K mg F kvs ps → DatL K mg F (kvs.map fun kv => kV kv.1) (ps.map (·.1))
  | _, _, .nil => .nil
  | _, _, .cons _ l => .cons (keyD_dat _) l.keyL
section
variable {X : Cx}
theorem cf_listD (hc : X.calm = true) : CallF X (.type "list") bListD := by
  rintro pins s σ H xs us Q I r ⟨F, ds, d, fh, l, e, k⟩
  unfold bListD at e
  split at e
  · exact cf_list pins s σ H xs us Q I r ⟨F, _, d, fh, l, e, k⟩
  · exact cf_list pins s σ H xs us Q I r ⟨F, _, d, fh, l, e, k⟩
  · cases e
    obtain ⟨v, rfl, hx⟩ := l.one
    obtain ⟨a, kvs, rfl, h1, l1⟩ := hx.dctK fh
    exact list_dR hc pins s σ H _ us Q I r ⟨a, kvs, rfl, h1, fun p n => k F _ p ⟨Same.refl F, fh.trans (same_upd n), same_upd n, fun a o e n => by rw [n] at e; cases e⟩ (fh.free n) n ⟨_, upd_same, l1.keyL⟩⟩
  · cases e
end
end L2.Pv

set_option Elab.async false
set_option linter.all false
set_option maxRecDepth 100000
set_option maxHeartbeats 4000000
set_option autoImplicit false
/-! The head: facts, tuples, tables; the end of a law. -/
namespace L2.Pv
open PySem PySem.Spec PyProof.Rows

/-- what is looked at: He's facts and tables, tuples, the values of tables -/
structure HkD where
  n : Nat
  fa : List He.Fa
  fn : List He.DefD
  ts : List He.Tab
  tu : List (Str × List He.Dv)
  tv : List ((PySem.W.Frag → Addr) × List (Str × He.Dv))
def HkD.ev (k : HkD) (K : PySem.W.Frag) : Bool := (k.tu.all fun t => He.tupB K t.1 t.2) && (k.tv.all fun t => He.valsB K (t.1 K) t.2)
def HkD.obsK (k : HkD) (K : PySem.W.Frag) : He.AlT × Bool := (He.obsT k.fa k.fn k.ts K, k.ev K)
def HkD.obsG (k : HkD) (g : Addr → Option Obj) : He.AlT × Bool := k.obsK (He.frG g (He.asD g k.n))
def HkD.val (k : HkD) (w : World) : He.AlT × Bool := (He.valT k.fn k.ts w, true)
def HkD.Says (k : HkD) (w : World) (K : PySem.W.Frag) : Prop := k.obsK K = k.val w
def HkD.hook (k : HkD) : PySem.W.Hook where
  α := He.AlT × Bool
  obs := fun s => k.obsG s.heap.get?
  val := fun w => k.val w
  says := fun w h => ∃ K : PySem.W.Frag, K.In h ∧ k.Says w K
  of := fun _ _ e => ⟨_, He.frG_in, e⟩
  keeps := fun _ _ _ ⟨K, hK, c⟩ q => ⟨K, PySem.W.Frag.In.keeps hK q, c⟩
theorem HkD.obsG_eq (k : HkD) {g : Addr → Option Obj} {s : Shared} (h : ∀ a, g a = s.heap.get? a) : k.obsG g = k.hook.obs s := by
  have e : g = s.heap.get? := funext h
  subst e
  rfl
section
variable {k : HkD} {w : World} {K : PySem.W.Frag} {h : Heap} {mg : Str → Option Value}
theorem HkD.Says.t (c : k.Says w K) : He.SaysT k.fa k.fn k.ts w K := congrArg (fun z : He.AlT × Bool => z.1) c
theorem HkD.Says.d (c : k.Says w K) : He.SaysD k.fa k.fn K := He.SaysT.d c.t
theorem HkD.Says.b (c : k.Says w K) : k.ev K = true := congrArg (fun z : He.AlT × Bool => z.2) c
def dvD : He.Dv → D
  | .int i => .int i
  | .str z => .str z
  | .bl b => .bl b
  | _ => .non
def dvOk : He.Dv → Bool
  | .int _ => true
  | .str _ => true
  | .bl _ => true
  | .non => true
  | _ => false
theorem dv_dat {F : Hp} : ∀ (d : He.Dv), dvOk d = true → Dat ⟨K, w⟩ mg F (d.v K) (dvD d)
  | .int i, _ => .int i
  | .str z, _ => .str z
  | .bl b, _ => .bl b
  | .non, _ => .non
theorem dvs_dat {F : Hp} : ∀ (l : List He.Dv), l.all dvOk = true → DatL ⟨K, w⟩ mg F (l.map (He.Dv.v K)) (l.map dvD)
  | [], _ => .nil
  | d :: l, e => by
    obtain ⟨e1, e2⟩ := Bool.and_eq_true_iff.mp (show (dvOk d && l.all dvOk) = true from e)
    exact .cons (dv_dat d e1) (dvs_dat l e2)
theorem HkD.Says.tup (c : k.Says w K) (X : K.In h) (G : h.Ns mainGlobals mg) (i j : Nat) {x : Str} {l : List He.Dv} (hi : k.tu[i]? = some (x, l) := by rfl) (hj : k.fa[j]? = some (.glo x) := by rfl) (ok : l.all dvOk = true := by rfl) : GTup K mg x (l.map dvD) := by
  obtain ⟨b1, _⟩ := Bool.and_eq_true_iff.mp c.b
  have b := List.all_eq_true.mp b1 _ (List.mem_of_getElem? hi)
  exact ⟨He.ga K x, _, He.glo_ok X G (He.SaysD.fact c.d j hj), fun H => He.tupB_ok b H, fun F w => dvs_dat l ok⟩
theorem exF_of (X : K.In h) (G : h.Ns mainGlobals mg) {x : Str} (c : (He.Fa.exc x).ok K = true) (d : (He.Fa.glo x).ok K = true) : ExF K mg x := by
  obtain ⟨a, b, e, f⟩ := He.exc_ok c
  exact ⟨He.glo_ok X G d, a, b, e, f⟩
end
theorem law_promise {K : KW} {mg : Str → Option Value} {f : List D → R D} {H : Hp} {a : Addr} {ns : List Int} (hS : SqL K H a (ns.map V.int)) (e : f [.scr ns] = .ok (.bl true)) {Q : VK} {E : XK} (q : ∀ H', Q (.bl true) H') : spM K mg 1 f [.ref a] H Q E := by
  refine ⟨H, [.scr ns], Same.refl H, .cons (.scr hS) .nil, rfl, ?_⟩
  rw [e]
  intro F' H' v _ hv
  cases hv
  exact q H'

theorem HkD.Says.mem {k : HkD} {w : World} {K : PySem.W.Frag} (c : k.Says w K) {f : He.Fa} (h : f ∈ k.fa) : f.ok K = true := by
  obtain ⟨i, hi⟩ := List.getElem?_of_mem h
  exact He.SaysD.fact c.d i hi
/-- the facts of the exceptions' classes -/
def excFa (cs : List Str) (sub : Str → Str → Bool) : List He.Fa := (cs.map He.Fa.glo) ++ ((cs.map He.Fa.exc) ++ cs.flatMap fun c => cs.map fun h => He.Fa.exm c h (sub c h))
section
variable {k : HkD} {w : World} {K : PySem.W.Frag} {h : Heap} {mg : Str → Option Value} {cs : List Str} {sub : Str → Str → Bool}
theorem HkD.Says.exF (c : k.Says w K) (X : K.In h) (G : h.Ns mainGlobals mg) (s : ∀ f, f ∈ excFa cs sub → f ∈ k.fa) {x : Str} (hx : x ∈ cs) : ExF K mg x :=
  exF_of X G (c.mem (s _ (List.mem_append_right _ (List.mem_append_left _ (List.mem_map_of_mem hx))))) (c.mem (s _ (List.mem_append_left _ (List.mem_map_of_mem hx))))
theorem HkD.Says.subOk (c : k.Says w K) (X : K.In h) (G : h.Ns mainGlobals mg) (s : ∀ f, f ∈ excFa cs sub → f ∈ k.fa) : SubOk K mg sub cs := by
  intro x y C D hx hy eC eD
  have gx := (c.exF X G s hx).gC
  have gy := (c.exF X G s hy).gC
  rw [gx] at eC; rw [gy] at eD
  cases eC; cases eD
  exact He.exm_ok (c.mem (s _ (List.mem_append_right _ (List.mem_append_right _ (List.mem_flatMap.mpr ⟨x, hx, List.mem_map_of_mem hy⟩)))))
end
theorem walk_pv {l : PySem.W.OpenLaw} {n k : Nat} {q : Program} {loose : List Str} {XP : (Str → Option Value) → Heap → Prop} {YP : World → Heap → Prop} {d : DefRec} {x : Str} {f : List D → R D}
    (hn : l.most = some n) (hn2 : n ≤ sizeLine) (hdf : d.params.defaults = []) (hr : Room k callerA) (hf : ∀ ns : List Int, ns.length ≤ n → f [.scr ns] = .ok (.bl true))
    (F : ∀ (w : World) (mg : Str → Option Value) (fa : Addr) (h : Heap), YP w h → h.Ns mainGlobals mg → mg d.name = some (.ref fa) →
      ∃ (K : PySem.W.Frag) (fd : FuncData), K.In h ∧ (∀ (s : Shared) (u : Value), BindsTo s fd ⟨[u], []⟩ [(x, u)]) ∧ ∀ base : Heap, K.In base → base.Ns mainGlobals mg → FnOk l.prog w K mg base (L2.CX l.prog w) k fa fd [x] (spM ⟨K, w⟩ mg 1 f)) :
    PySem.W.WalkO q loose XP YP l.row.toRowW d [] (fun f vs => PySem.call f vs) := by
  refine Att.attach_call hn hdf fun w s₀ s₁ mg mb fa o pm cd doc a vs ns G Y ho hd hcd hmg hobj hints hlen hg => ?_
  obtain ⟨K, fd, KX, hb, hF⟩ := F w mg fa _ Y G.T.g hmg
  exact law_call KX G.T.g G.T.b G.T.builtins G.T.nolimit hg hobj hints (Nat.le_trans hlen hn2) hr hF hb (fun H _ hS => law_promise hS (hf ns hlen) fun _ => rfl) fun H e s' ⟨_, _, _, _, _, _, _, _, _, _, _, _, z⟩ => z
end L2.Pv

set_option Elab.async false
set_option linter.all false
set_option maxRecDepth 100000
set_option maxHeartbeats 4000000
set_option autoImplicit false
/-! Mirrors, worked out. -/
namespace L2.Pv
open PySem PySem.Spec PyProof.Rows

/-- by a bool -/
def D.sel {α : Type} (d : D) (a b : R α) : R α := match d with
  | .bl true => a
  | .bl false => b
  | _ => .no
@[simp] theorem sel_bl {α : Type} (c : Bool) (a b : R α) : D.sel (.bl c) a b = if c then a else b := by cases c <;> rfl
section
variable (ρ : Env) (d : D) (ma mb mc : EM) (p q : TM) (m n : SM) (i j : Nat)
@[simp] theorem x_K : eK d ρ = .ok d := nr rfl
@[simp] theorem slAt_0 (s : Option Sl) (r : Env) : slAt (s :: r) 0 = s := nr rfl
@[simp] theorem slAt_s (s : Option Sl) (r : Env) (n : Nat) : slAt (s :: r) (n + 1) = slAt r n := nr rfl
@[simp] theorem x_V : eV i ρ = match slAt ρ i with
  | some (.val d) => .ok d
  | _ => .no := nr rfl
@[simp] theorem x_B : eB i ρ = match slAt ρ i with
  | some (.val d) => .ok d
  | some (.own d) => .ok d
  | _ => .no := nr rfl
@[simp] theorem x_Op (g : D → D → Option D) : eOp g ma mb ρ = (ma ρ).bind fun x => (mb ρ).bind fun y => R.of (g x y) := nr rfl
@[simp] theorem x_tOf : tOf ma ρ = (ma ρ).bind D.asB := nr rfl
@[simp] theorem asB_bl (b : Bool) : D.asB (.bl b) = .ok b := nr rfl
@[simp] theorem x_tTru : tTru ma ρ = (ma ρ).bind fun d => R.of d.truth := nr rfl
@[simp] theorem x_chain (g g' : D → D → Option D) : eChain g g' ma mb mc ρ = (ma ρ).bind fun x => (mb ρ).bind fun y => (R.of (g x y)).bind fun z => z.sel ((mc ρ).bind fun w => R.of (g' y w)) (.ok (.bl false)) := nr rfl
@[simp] theorem x_tAnd : tAndM p q ρ = (p ρ).bind fun b => if b then q ρ else .ok false := nr rfl
@[simp] theorem x_tOr : tOrM p q ρ = (p ρ).bind fun b => if b then .ok true else q ρ := nr rfl
@[simp] theorem x_tNot : tNotM p ρ = (p ρ).bind fun b => .ok (!b) := nr rfl
@[simp] theorem x_And : eAnd ma mb ρ = (ma ρ).bind fun x => x.sel (mb ρ) (.ok (.bl false)) := nr rfl
@[simp] theorem x_Or : eOr ma mb ρ = (ma ρ).bind fun x => x.sel (.ok (.bl true)) (mb ρ) := by
  show R.bind _ _ = _
  congr 1
  funext x
  cases x with
  | bl b => cases b <;> rfl
  | _ => rfl
@[simp] theorem x_Not : eNot ma ρ = (ma ρ).bind fun x => (R.of x.truth).bind fun b => .ok (.bl (!b)) := nr rfl
@[simp] theorem x_Neg : eNeg ma ρ = (ma ρ).bind fun x => match x with
  | .int i => .ok (.int (-i))
  | _ => .no := nr rfl
@[simp] theorem x_If : eIf p ma mb ρ = (p ρ).bind fun b => if b then ma ρ else mb ρ := nr rfl
@[simp] theorem x_all0 : aAll [] ρ = .ok [] := nr rfl
@[simp] theorem x_all1 (ms : List EM) : aAll (ma :: ms) ρ = (ma ρ).bind fun d => (aAll ms ρ).bind fun ds => .ok (d :: ds) := nr rfl
@[simp] theorem x_Tup (ms : List EM) : eTup ms ρ = (aAll ms ρ).bind fun ds => .ok (.tup ds) := nr rfl
@[simp] theorem x_Lst (ms : List EM) : eLst ms ρ = (aAll ms ρ).bind fun ds => .ok (.lst ds) := nr rfl
@[simp] theorem x_oInt0 : oInt none ρ = .ok none := nr rfl
@[simp] theorem x_oInt1 : oInt (some ma) ρ = (ma ρ).bind fun d => match d with
  | .int i => .ok (some i)
  | _ => .no := nr rfl
@[simp] theorem x_Sl (lo hi : Option EM) : eSl ma lo hi ρ = (ma ρ).bind fun x => (oInt lo ρ).bind fun l => (oInt hi ρ).bind fun u => R.of (D.slice x l u) := nr rfl
@[simp] theorem x_Call (f : List D → R D) (ms : List EM) : eCall f ms ρ = (aAll ms ρ).bind f := nr rfl
@[simp] theorem x_Bf (g : List D → Option D) (ms : List EM) : eBf g ms ρ = (aAll ms ρ).bind fun ds => R.of (g ds) := nr rfl
@[simp] theorem x_Isi (U : String) : eIsi U ma ρ = (ma ρ).bind fun d => (R.of d.tyN).bind fun T => .ok (.bl (isTy T U)) := nr rfl
@[simp] theorem x_Met (T : D → Bool) (g : D → List D → Option D) (ms : List EM) : eMet T g ma ms ρ = (ma ρ).bind fun x => if T x then (aAll ms ρ).bind fun ds => R.of (g x ds) else .no := nr rfl
@[simp] theorem x_iV : iV ma ρ = (ma ρ).bind fun d => R.of d.items := nr rfl
@[simp] theorem x_iBf (g : List D → Option (List D)) (ms : List EM) : iBf g ms ρ = (aAll ms ρ).bind fun ds => R.of (g ds) := nr rfl
@[simp] theorem x_iEn : iEn ma ρ = (ma ρ).bind fun d => R.of (enumD d) := nr rfl
@[simp] theorem x_iK (ds : List D) : iK ds ρ = .ok ds := nr rfl
@[simp] theorem x_inK (neg : Bool) (ds : List D) : eInK neg ds ma ρ = (ma ρ).bind fun x => if x.flat && ds.all D.flat then .ok (.bl (if neg then !x.inb ds else x.inb ds)) else .no := nr rfl
@[simp] theorem x_lrng : eLrng ma ρ = (ma ρ).bind fun d => match d with
  | .int j => if decide (0 ≤ j) && decide (j ≤ 1000000) then .ok (.lst ((List.range j.toNat).map fun i : Nat => .int i)) else .no
  | _ => .no := nr rfl
@[simp] theorem x_one (i : Nat) : gOne i ρ d = some (ρ.set i (some (.val d))) := nr rfl
@[simp] theorem x_tupM (is : List Nat) (ds : List D) : gTupM is ρ (.tup ds) = if ds.length = is.length then some (setAll ρ is ds) else none := nr rfl
@[simp] theorem x_setAll0 (ds : List D) : setAll ρ [] ds = ρ := by cases ds <;> rfl
@[simp] theorem x_setAll1 (i : Nat) (is : List Nat) (d : D) (ds : List D) : setAll ρ (i :: is) (d :: ds) = setAll (ρ.set i (some (.val d))) is ds := nr rfl
@[simp] theorem x_wipe0 : wipeE ρ [] = ρ := nr rfl
@[simp] theorem x_wipe1 (v : Nat) (vs : List Nat) : wipeE ρ (v :: vs) = (wipeE ρ vs).set v none := nr rfl
@[simp] theorem x_Yes : pYes ρ = .ok true := nr rfl
@[simp] theorem x_Lc (own : List Nat) (gm : GM) (mi : AM) : eLc own gm mi p ma ρ = (mi ρ).bind fun ds => if ds.length ≤ lim then (compD gm p ma (wipeE ρ own) ds).bind fun es => .ok (.lst es) else .no := nr rfl
@[simp] theorem x_seq : sSeq m n ρ = (m ρ).seq n := nr rfl
@[simp] theorem seq_nx : (Out.nx ρ).seq n = n ρ := nr rfl
@[simp] theorem seq_rt : (Out.rt d).seq n = .rt d := nr rfl
@[simp] theorem seq_bk : (Out.bk ρ).seq n = .bk ρ := nr rfl
@[simp] theorem seq_ct : (Out.ct ρ).seq n = .ct ρ := nr rfl
@[simp] theorem seq_rs (c : Str) : (Out.rs c ρ).seq n = .rs c ρ := nr rfl
@[simp] theorem seq_no : Out.no.seq n = .no := nr rfl
@[simp] theorem x_fgs0 : fgs [] ρ = ρ := nr rfl
@[simp] theorem x_fgs1 (v : Nat) (vs : List Nat) : fgs (v :: vs) ρ = fgs vs (ρ.set v none) := nr rfl
@[simp] theorem x_fz : fz i ρ = match ρ[i]? with
  | some (some (.own d)) => ρ.set i (some (.val d))
  | _ => ρ := nr rfl
@[simp] theorem x_sFz : sFz i m ρ = m (fz i ρ) := nr rfl
@[simp] theorem x_ret : sRet ma ρ = (ma ρ).out ρ .rt := nr rfl
@[simp] theorem x_expr : sExpr ma ρ = (ma ρ).out ρ fun _ => .nx ρ := nr rfl
@[simp] theorem x_sif : sIf p m n ρ = (p ρ).out ρ fun b => if b then m ρ else n ρ := nr rfl
@[simp] theorem x_set : sSet i ma ρ = (ma ρ).out ρ fun d => .nx (ρ.set i (some (.val d))) := nr rfl
@[simp] theorem x_setF : sSetF i ma ρ = (ma ρ).out ρ fun d => .nx (ρ.set i (some (.own d))) := nr rfl
@[simp] theorem x_asg (gm : GM) : sAsg gm ma ρ = (ma ρ).out ρ fun d => match gm ρ d with
  | some ρ1 => .nx ρ1
  | none => .no := nr rfl
@[simp] theorem x_sFor (junk : List Nat) (gm : GM) (mi : AM) (body : SM) : sFor junk gm mi body ρ = (mi ρ).out ρ fun ds => forD junk gm body ds (fgs junk ρ) := nr rfl
@[simp] theorem x_while (k : Nat) (junk : List Nat) (body : SM) : sWhile k junk p body ρ = whileD junk p body k (fgs junk ρ) := nr rfl
@[simp] theorem x_App : sApp i ma ρ = match slAt ρ i with
  | some (.own (.lst ds)) => (ma ρ).out ρ fun d => if ds.length < lim then .nx (ρ.set i (some (.own (.lst (ds ++ [d]))))) else .no
  | _ => .no := nr rfl
@[simp] theorem x_Ext : sExt i ma ρ = match slAt ρ i with
  | some (.own (.lst ds)) => (ma ρ).out ρ fun d => match d with
    | .lst es => if ds.length + es.length ≤ lim then .nx (ρ.set i (some (.own (.lst (ds ++ es))))) else .no
    | _ => .no
  | _ => .no := nr rfl
@[simp] theorem x_Aug (g : D → D → Option D) : sAug i g ma ρ = match slAt ρ i with
  | some (.val x) => (ma ρ).out ρ fun y => match g x y with
    | some z => .nx (ρ.set i (some (.val z)))
    | none => .no
  | _ => .no := nr rfl
@[simp] theorem x_par2 : sPar2 i j ma mb ρ = (ma ρ).out ρ fun a => (mb ρ).out ρ fun b => .nx ((ρ.set i (some (.val a))).set j (some (.val b))) := by
  show ((ma ρ).bind fun d => ((mb ρ).bind fun e => R.ok [e]).bind fun ds => R.ok (d :: ds)).out ρ _ = _
  cases ma ρ <;> cases mb ρ <;> rfl
@[simp] theorem x_pairs0 : pairsM [] ρ = .ok [] := nr rfl
@[simp] theorem x_pairs1 (k v : EM) (r : List (EM × EM)) : pairsM ((k, v) :: r) ρ = (k ρ).bind fun x => (v ρ).bind fun y => (pairsM r ρ).bind fun ps => if D.keyOk false x then .ok ((x, y) :: ps) else .no := nr rfl
@[simp] theorem keyOk_str (x : Str) : D.keyOk false (.str x) = true := nr rfl
@[simp] theorem keyOk_int (x : Int) : D.keyOk false (.int x) = true := nr rfl
@[simp] theorem x_disp (ps : List (EM × EM)) : eDisp ps ρ = (pairsM ps ρ).bind fun ps => .ok (.dct false (mergeD ps)) := nr rfl
@[simp] theorem x_get1 : eGet1 ma mb ρ = (ma ρ).bind fun d => match d with
  | .dct t ps => (mb ρ).bind fun k => if D.keyOk t k then .ok ((D.find k ps).getD .non) else .no
  | _ => .no := nr rfl
@[simp] theorem x_get2 : eGet2 ma mb mc ρ = (ma ρ).bind fun d => match d with
  | .dct t ps => (mb ρ).bind fun k => (mc ρ).bind fun x => if D.keyOk t k then .ok ((D.find k ps).getD x) else .no
  | _ => .no := nr rfl
@[simp] theorem x_sub : sSub i ma mb ρ = (mb ρ).out ρ fun v => match slAt ρ i with
  | some (.own o) => (ma ρ).out ρ fun k => match D.setAt o k v with
    | some o' => .nx (ρ.set i (some (.own o')))
    | none => .no
  | _ => .no := nr rfl
@[simp] theorem x_no : eNo ρ = .no := nr rfl
end
theorem runM_rt {n : Nat} {m : SM} {ds : List D} {d : D} (h : m (startE n ds) = .rt d) : runM n m ds = .ok d := by unfold runM; rw [h]
theorem runM_nx {n : Nat} {m : SM} {ds : List D} {ρ : Env} (h : m (startE n ds) = .nx ρ) : runM n m ds = .ok .non := by unfold runM; rw [h]
theorem runM_rs {n : Nat} {m : SM} {ds : List D} {ρ : Env} {c : Str} (h : m (startE n ds) = .rs c ρ) : runM n m ds = .ex c := by unfold runM; rw [h]
end L2.Pv

set_option Elab.async false
set_option linter.all false
set_option maxRecDepth 100000
set_option maxHeartbeats 4000000
set_option autoImplicit false
/-! Data worked out; floors. -/
namespace L2.Pv
open PySem PySem.Spec PyProof.Rows

/-! ### operations on known kinds -/
section
variable (i j : Int) (a b : Bool) (x y : Str) (ds es : List D)
@[simp] theorem d_add : D.add (.int i) (.int j) = some (.int (i + j)) := nr rfl
@[simp] theorem d_sub : D.sub (.int i) (.int j) = some (.int (i - j)) := nr rfl
theorem d_mul (h : smallI i = true ∨ smallI j = true) : D.mul (.int i) (.int j) = some (.int (i * j)) := by
  show (if (smallI i || smallI j) = true then _ else _) = _
  rw [if_pos (by rcases h with h | h <;> simp [h])]
theorem d_mod (h : 0 < j) : D.mod (.int i) (.int j) = some (.int (i % j)) := by show (if 0 < j then _ else _) = _; rw [if_pos h]
theorem d_fdiv (h : 0 < j) (h2 : j < 1073741824) : D.fdiv (.int i) (.int j) = some (.int (i / j)) := by
  show (if (decide (0 < j) && decide (j < 1073741824)) = true then _ else _) = _
  rw [if_pos (by simp [h, h2])]
@[simp] theorem d_lt : D.lt (.int i) (.int j) = some (.bl (decide (i < j))) := nr rfl
@[simp] theorem d_le : D.le (.int i) (.int j) = some (.bl (decide (i ≤ j))) := nr rfl
@[simp] theorem d_gt : D.gt (.int i) (.int j) = some (.bl (decide (j < i))) := nr rfl
@[simp] theorem d_ge : D.ge (.int i) (.int j) = some (.bl (decide (j ≤ i))) := nr rfl
@[simp] theorem d_addI : D.addI (.int i) (.int j) = some (.int (i + j)) := nr rfl
theorem eqv_int : PyData.eqv (.int i) (.int j) = decide (i = j) := by
  unfold PyData.eqv; rfl
theorem eqv_str : PyData.eqv (.str x) (.str y) = decide (x = y) := by
  unfold PyData.eqv; rfl
@[simp] theorem eqb_int : D.eqb (.int i) (.int j) = decide (i = j) := eqv_int i j
@[simp] theorem eqb_str : D.eqb (.str x) (.str y) = decide (x = y) := eqv_str x y
@[simp] theorem eqb_strint : D.eqb (.str x) (.int j) = false := by unfold D.eqb D.py PyData.eqv; rfl
@[simp] theorem eqb_intstr : D.eqb (.int j) (.str x) = false := by unfold D.eqb D.py PyData.eqv; rfl
@[simp] theorem eqb_nonint : D.eqb .non (.int j) = false := by unfold D.eqb D.py PyData.eqv; rfl
@[simp] theorem d_eq_int : D.eq (.int i) (.int j) = some (.bl (decide (i = j))) := by
  show some (D.bl (D.eqb _ _)) = _; rw [eqb_int]
theorem shp_str (h : PyData.strOk x = true) : SeqAt.shaped (D.str x).py = true := by unfold SeqAt.shaped D.py PyData.canLay0 PyData.depth; rw [h]; rfl
@[simp] theorem ok_lit (s : String) : PyData.strOk (Str.ofString s) = true := by
  unfold PyData.strOk
  rw [Str.ofString_eq_toList, Array.all_eq_true]
  intro i hi
  simp only [List.getElem_toArray, List.getElem_map]
  refine decide_eq_true ?_
  have := (s.toList[i]'(by simpa using hi)).valid
  rcases this with h | h
  · exact Nat.lt_trans h (by decide)
  · exact h.2
@[simp] theorem lit_inj (s t : String) : Str.ofString s = Str.ofString t ↔ s = t := by
  constructor
  · intro h
    rw [Str.ofString_eq_toList, Str.ofString_eq_toList] at h
    injection h with h
    have h := congrArg Array.toList h
    simp only [List.toList_toArray] at h
    exact String.ext ((List.map_inj_right fun a b e => Char.toNat_inj.mp e).mp h)
  · intro h; rw [h]
@[simp] theorem d_eq_str (h : PyData.strOk x = true) (h2 : PyData.strOk y = true) : D.eq (.str x) (.str y) = some (.bl (decide (x = y))) := by
  unfold D.eq; rw [shp_str x h, shp_str y h2, eqb_str]; rfl
@[simp] theorem d_ne_int : D.ne (.int i) (.int j) = some (.bl (!decide (i = j))) := by
  show some (D.bl (!D.eqb _ _)) = _; rw [eqb_int]
@[simp] theorem d_ne_str (h : PyData.strOk x = true) (h2 : PyData.strOk y = true) : D.ne (.str x) (.str y) = some (.bl (!decide (x = y))) := by
  unfold D.ne; rw [shp_str x h, shp_str y h2, eqb_str]; rfl
@[simp] theorem flat_int : D.flat (.int i) = true := nr rfl
@[simp] theorem flat_str : D.flat (.str x) = true := nr rfl
@[simp] theorem flat_bl : D.flat (.bl a) = true := nr rfl
@[simp] theorem flat_non : D.flat .non = true := nr rfl
@[simp] theorem d_isIn_t (d : D) : D.isIn d (.tup ds) = if (d.flat && ds.all D.flat) || (SeqAt.shaped d.py && SeqAt.shaped (D.tup ds).py) then some (.bl (d.inb ds)) else none := nr rfl
@[simp] theorem inb_nil (d : D) : D.inb d [] = false := nr rfl
@[simp] theorem inb_cons (d e : D) : D.inb d (e :: ds) = (e.eqb d || d.inb ds) := nr rfl
@[simp] theorem d_isN_int : D.isN (.int i) .non = some (.bl false) := nr rfl
@[simp] theorem d_isN_non : D.isN .non .non = some (.bl true) := nr rfl
@[simp] theorem d_isNn_int : D.isNn (.int i) .non = some (.bl true) := nr rfl
@[simp] theorem d_isNn_non : D.isNn .non .non = some (.bl false) := nr rfl
@[simp] theorem d_len_l : D.len (.lst ds) = some (.int ds.length) := nr rfl
@[simp] theorem d_len_t : D.len (.tup ds) = some (.int ds.length) := nr rfl
@[simp] theorem b_len (d : D) : bLen [d] = d.len := nr rfl
@[simp] theorem d_truth_bl : D.truth (.bl a) = some a := nr rfl
@[simp] theorem d_truth_l : D.truth (.lst ds) = some (!ds.isEmpty) := nr rfl
@[simp] theorem d_truth_t : D.truth (.tup ds) = some (!ds.isEmpty) := nr rfl
@[simp] theorem isStr_str : D.isStr (.str x) = true := nr rfl
@[simp] theorem isLst_lst : D.isLst (.lst ds) = true := nr rfl
@[simp] theorem d_items_l : D.items (.lst ds) = some ds := nr rfl
@[simp] theorem d_items_t : D.items (.tup ds) = some ds := nr rfl
end

/-! ### flat enough data -/
def D.sh : Nat → D → Bool
  | _, .non => true
  | _, .bl _ => true
  | _, .int _ => true
  | _, .str x => PyData.strOk x
  | k + 1, .tup ds => ds.all (D.sh k)
  | k + 1, .lst ds => ds.all (D.sh k)
  | _, _ => false
mutual
theorem sh_py : ∀ (k : Nat) (d : D), D.sh k d = true → d.py.canLay0 = true ∧ d.py.depth ≤ k
  | k, .non, _ => by simp [D.py, PyData.canLay0, PyData.depth]
  | k, .bl _, _ => by simp [D.py, PyData.canLay0, PyData.depth]
  | k, .int _, _ => by simp [D.py, PyData.canLay0, PyData.depth]
  | k, .str x, h => by cases k <;> (simp only [D.sh] at h; simp [D.py, PyData.canLay0, PyData.depth, h])
  | 0, .tup ds, h => by cases h
  | 0, .lst ds, h => by cases h
  | k + 1, .tup ds, h => by
    have := sh_pys k ds h
    simp only [D.py, PyData.canLay0, PyData.depth]
    exact ⟨this.1, by omega⟩
  | k + 1, .lst ds, h => by
    have := sh_pys k ds h
    simp only [D.py, PyData.canLay0, PyData.depth]
    exact ⟨this.1, by omega⟩
  | k, .dct _ _, h => by cases k <;> cases h
  | k, .dcn _, h => by cases k <;> cases h
  | k, .obj _ _, h => by cases k <;> cases h
  | k, .scr _, h => by cases k <;> cases h
theorem sh_pys : ∀ (k : Nat) (ds : List D), ds.all (D.sh k) = true → PyData.canLayAll0 (D.pys ds) = true ∧ PyData.depthAll (D.pys ds) ≤ k
  | k, [], _ => by simp [D.pys, PyData.canLayAll0, PyData.depthAll]
  | k, d :: ds, h => by
    obtain ⟨h1, h2⟩ := Bool.and_eq_true_iff.mp (show (D.sh k d && ds.all (D.sh k)) = true from h)
    have a := sh_py k d h1
    have b := sh_pys k ds h2
    simp only [D.pys, PyData.canLayAll0, PyData.depthAll, a.1, b.1]
    refine ⟨rfl, ?_⟩
    omega
end
theorem sh_shaped {k : Nat} {d : D} (h : D.sh k d = true) (hk : k ≤ 64 := by decide) : SeqAt.shaped d.py = true := by
  obtain ⟨a, b⟩ := sh_py k d h
  unfold SeqAt.shaped
  rw [a]
  simp
  omega
theorem d_eq_self {k : Nat} {d : D} (h : D.sh k d = true) (hk : k ≤ 64 := by decide) : D.eq d d = some (.bl true) := by
  have s := sh_shaped h hk
  unfold D.eq
  rw [s]
  show some (D.bl (D.eqb d d)) = _
  rw [show D.eqb d d = true from SeqAt.eqv_refl _ (sh_py k d h).1]
theorem d_ne_self {k : Nat} {d : D} (h : D.sh k d = true) (hk : k ≤ 64 := by decide) : D.ne d d = some (.bl false) := by
  have s := sh_shaped h hk
  unfold D.ne
  rw [s]
  show some (D.bl (!D.eqb d d)) = _
  rw [show D.eqb d d = true from SeqAt.eqv_refl _ (sh_py k d h).1]
  rfl
mutual
/-- data of ints, texts, None, tuples and lists alone -/
def D.cl : D → Bool
  | .non => true
  | .int _ => true
  | .str _ => true
  | .tup ds => D.cls ds
  | .lst ds => D.cls ds
  | _ => false
def D.cls : List D → Bool
  | [] => true
  | d :: ds => d.cl && D.cls ds
end
mutual
theorem eqb_cl : ∀ (d e : D), d.cl = true → e.cl = true → (PyData.eqv d.py e.py = true ↔ d = e)
  | .non, e, _, h => by cases e <;> simp [D.py, PyData.eqv, D.cl] at h ⊢
  | .int i, e, _, h => by cases e <;> simp [D.py, PyData.eqv, D.cl] at h ⊢
  | .str x, e, _, h => by cases e <;> simp [D.py, PyData.eqv, D.cl] at h ⊢
  | .tup ds, e, g, h => by
    cases e with
    | tup es =>
      have := eqbs_cl ds es (by simpa [D.cl] using g) (by simpa [D.cl] using h)
      simp only [D.py, PyData.eqv, this, D.tup.injEq]
    | _ => simp [D.py, PyData.eqv, D.cl] at h ⊢
  | .lst ds, e, g, h => by
    cases e with
    | lst es =>
      have := eqbs_cl ds es (by simpa [D.cl] using g) (by simpa [D.cl] using h)
      simp only [D.py, PyData.eqv, this, D.lst.injEq]
    | _ => simp [D.py, PyData.eqv, D.cl] at h ⊢
  | .bl _, _, g, _ => by simp [D.cl] at g
  | .dct _ _, _, g, _ => by simp [D.cl] at g
  | .dcn _, _, g, _ => by simp [D.cl] at g
  | .obj _ _, _, g, _ => by simp [D.cl] at g
  | .scr _, _, g, _ => by simp [D.cl] at g
theorem eqbs_cl : ∀ (ds es : List D), D.cls ds = true → D.cls es = true → (PyData.eqvAll (D.pys ds) (D.pys es) = true ↔ ds = es)
  | [], [], _, _ => by simp [D.pys, PyData.eqvAll]
  | [], e :: es, _, _ => by simp [D.pys, PyData.eqvAll]
  | d :: ds, [], _, _ => by simp [D.pys, PyData.eqvAll]
  | d :: ds, e :: es, g, h => by
    simp only [D.cls, Bool.and_eq_true] at g h
    have a := eqb_cl d e g.1 h.1
    have b := eqbs_cl ds es g.2 h.2
    simp only [D.pys, PyData.eqvAll, Bool.and_eq_true, a, b, List.cons.injEq]
end
theorem d_eq_cl {k j : Nat} {d e : D} (hd : d.cl = true) (he : e.cl = true) (sd : D.sh k d = true) (se : D.sh j e = true) (hk : k ≤ 64 := by decide) (hj : j ≤ 64 := by decide) {p : Prop} [Decidable p] (h : d = e ↔ p) : D.eq d e = some (.bl (decide p)) := by
  unfold D.eq D.eqb
  rw [sh_shaped sd hk, sh_shaped se hj]
  have : PyData.eqv d.py e.py = decide p := by
    rw [Bool.eq_iff_iff, eqb_cl d e hd he, h, decide_eq_true_eq]
  rw [this]; rfl
theorem d_ne_cl {k j : Nat} {d e : D} (hd : d.cl = true) (he : e.cl = true) (sd : D.sh k d = true) (se : D.sh j e = true) (hk : k ≤ 64 := by decide) (hj : j ≤ 64 := by decide) {p : Prop} [Decidable p] (h : d = e ↔ p) : D.ne d e = some (.bl (!decide p)) := by
  unfold D.ne D.eqb
  rw [sh_shaped sd hk, sh_shaped se hj]
  have : PyData.eqv d.py e.py = decide p := by
    rw [Bool.eq_iff_iff, eqb_cl d e hd he, h, decide_eq_true_eq]
  rw [this]; rfl
def nats (l : List Nat) : List D := l.map fun n : Nat => D.int (n : Int)
theorem nats_sh (k : Nat) (l : List Nat) : (nats l).all (D.sh k) = true := by
  unfold nats
  rw [List.all_map, List.all_eq_true]
  intro n _
  cases k <;> rfl
theorem nats_app (l m : List Nat) : nats (l ++ m) = nats l ++ nats m := List.map_append
@[simp] theorem nats_nil : nats [] = [] := nr rfl
@[simp] theorem nats_cons (n : Nat) (l : List Nat) : nats (n :: l) = .int n :: nats l := nr rfl
@[simp] theorem nats_len (l : List Nat) : (nats l).length = l.length := List.length_map _
theorem nats_get {l : List Nat} {i n : Nat} (h : l[i]? = some n) : (nats l)[i]? = some (.int n) := by unfold nats; rw [List.getElem?_map, h]; rfl
@[simp] theorem inb_ints (c : Nat) : ∀ l : List Nat, D.inb (.int c) (nats l) = decide (c ∈ l)
  | [] => rfl
  | n :: l => by
    have : ((n : Int) = c) ↔ (c = n) := by omega
    show D.inb _ (D.int n :: nats l) = _
    simp [inb_ints c l, this]
@[simp] theorem isIn_ints (c : Nat) (l : List Nat) : D.isIn (.int c) (.lst (nats l)) = some (.bl (decide (c ∈ l))) := by
  show (if (SeqAt.shaped (D.int (c : Int)).py && SeqAt.shaped (D.lst (nats l)).py) = true then _ else _) = _
  rw [sh_shaped (k := 1) (d := .lst (nats l)) (nats_sh 0 l), if_pos, inb_ints]
  rw [sh_shaped (k := 0) (d := .int (c : Int)) rfl]; rfl
@[simp] theorem notIn_ints (c : Nat) (l : List Nat) : D.notIn (.int c) (.lst (nats l)) = some (.bl (!decide (c ∈ l))) := by
  unfold D.notIn; rw [isIn_ints]

theorem lim100 : 100 < lim := by decide
theorem le_lim {n : Nat} (h : n ≤ 1000) : n ≤ lim := Nat.le_trans h (by decide)
theorem lt_lim {n : Nat} (h : n ≤ 1000) : n < lim := Nat.lt_of_le_of_lt h (by decide)

/-! ### places -/
theorem ixN_nat {n k : Nat} (h : k < n) : ixN n (k : Int) = some k := by
  unfold ixN; rw [if_pos (by omega), if_pos (by omega)]; simp
theorem atI_nat {α : Type} {xs : List α} {k : Nat} {x : α} (h : xs[k]? = some x) : atI xs (k : Int) = some x := by
  have hk := (List.getElem?_eq_some_iff.mp h).1
  unfold atI; rw [ixN_nat hk]; exact h
theorem idx_t {ds : List D} {k : Nat} {d : D} (h : ds[k]? = some d) : D.idx (.tup ds) (.int (k : Int)) = some d := atI_nat h
theorem idx_l {ds : List D} {k : Nat} {d : D} (h : ds[k]? = some d) : D.idx (.lst ds) (.int (k : Int)) = some d := atI_nat h
@[simp] theorem idx_t0 (d : D) (ds : List D) : D.idx (.tup (d :: ds)) (.int 0) = some d := idx_t (k := 0) rfl
@[simp] theorem idx_t1 (d e : D) (ds : List D) : D.idx (.tup (d :: e :: ds)) (.int 1) = some e := idx_t (k := 1) rfl
@[simp] theorem idx_t2 (d e f : D) (ds : List D) : D.idx (.tup (d :: e :: f :: ds)) (.int 2) = some f := idx_t (k := 2) rfl
@[simp] theorem idx_t3 (d e f g : D) (ds : List D) : D.idx (.tup (d :: e :: f :: g :: ds)) (.int 3) = some g := idx_t (k := 3) rfl
@[simp] theorem idx_l0 (d : D) (ds : List D) : D.idx (.lst (d :: ds)) (.int 0) = some d := idx_l (k := 0) rfl
@[simp] theorem idx_l1 (d e : D) (ds : List D) : D.idx (.lst (d :: e :: ds)) (.int 1) = some e := idx_l (k := 1) rfl

/-! ### comprehensions, loops -/
theorem compD_fm {α : Type} {gm : GM} {p : TM} {me : EM} {ρ : Env} (enc : α → D) (q : α → Bool) (g : α → D) : ∀ xs : List α, (∀ x ∈ xs, ∃ ρ1, gm ρ (enc x) = some ρ1 ∧ p ρ1 = .ok (q x) ∧ (q x = true → me ρ1 = .ok (g x))) → compD gm p me ρ (xs.map enc) = .ok ((xs.filter q).map g)
  | [], _ => rfl
  | x :: xs, h => by
    obtain ⟨ρ1, e1, e2, e3⟩ := h x List.mem_cons_self
    have ih := compD_fm enc q g xs fun y hy => h y (List.mem_cons_of_mem _ hy)
    show (R.of (gm ρ (enc x))).bind _ = _
    rw [e1]
    show ((p ρ1).nx).bind _ = _
    rw [e2]
    show (if q x = true then _ else _) = _
    cases hq : q x with
    | true =>
      rw [if_pos rfl, e3 hq]
      show (compD gm p me ρ (xs.map enc)).bind _ = _
      rw [ih, List.filter_cons_of_pos hq]
      rfl
    | false =>
      rw [if_neg Bool.false_ne_true, ih, List.filter_cons_of_neg (by rw [hq]; exact Bool.false_ne_true)]
theorem compD_map {α : Type} {gm : GM} {me : EM} {ρ : Env} (enc : α → D) (g : α → D) (xs : List α) (h : ∀ x ∈ xs, ∃ ρ1, gm ρ (enc x) = some ρ1 ∧ me ρ1 = .ok (g x)) : compD gm pYes me ρ (xs.map enc) = .ok (xs.map g) := by
  have := compD_fm (p := pYes) enc (fun _ => true) g xs fun x hx => let ⟨ρ1, a, b⟩ := h x hx; ⟨ρ1, a, rfl, fun _ => b⟩
  rw [this, List.filter_eq_self.mpr fun _ _ => rfl]
/-- a loop that may end early with a value -/
def foldR {α σ : Type} (step : σ → α → Sum σ D) : List α → σ → Sum σ D
  | [], s => .inl s
  | x :: xs, s => match step s x with
    | .inl s' => foldR step xs s'
    | .inr d => .inr d
/-- what a turn comes to: the slots for the next one, or a value -/
def Out.loop (junk : List Nat) : Out → Option (Sum Env D)
  | .nx ρ => some (.inl (fgs junk ρ))
  | .ct ρ => some (.inl (fgs junk ρ))
  | .rt d => some (.inr d)
  | _ => none
section
variable (junk : List Nat) (ρ : Env) (d : D) (body : SM)
@[simp] theorem loop_nx : (Out.nx ρ).loop junk = some (.inl (fgs junk ρ)) := nr rfl
@[simp] theorem loop_ct : (Out.ct ρ).loop junk = some (.inl (fgs junk ρ)) := nr rfl
@[simp] theorem loop_rt : (Out.rt d).loop junk = some (.inr d) := nr rfl
def turn (gm : GM) : Option (Sum Env D) := match gm ρ d with
  | some ρ1 => (body ρ1).loop junk
  | none => none
@[simp] theorem turn_one (i : Nat) : turn junk ρ d body (gOne i) = (body (ρ.set i (some (.val d)))).loop junk := nr rfl
@[simp] theorem turn_tup (is : List Nat) (ds : List D) (h : ds.length = is.length) : turn junk ρ (.tup ds) body (gTupM is) = (body (setAll ρ is ds)).loop junk := by
  show (match (if ds.length = is.length then some (setAll ρ is ds) else none) with
    | some ρ1 => (body ρ1).loop junk
    | none => none) = _
  rw [if_pos h]
end
@[simp] theorem turn_two (junk : List Nat) (ρ : Env) (body : SM) (i j : Nat) (a b : D) : turn junk ρ (.tup [a, b]) body (gTupM [i, j]) = (body ((ρ.set i (some (.val a))).set j (some (.val b)))).loop junk := nr rfl
@[simp] theorem turn_three (junk : List Nat) (ρ : Env) (body : SM) (i j k : Nat) (a b c : D) : turn junk ρ (.tup [a, b, c]) body (gTupM [i, j, k]) = (body (((ρ.set i (some (.val a))).set j (some (.val b))).set k (some (.val c)))).loop junk := nr rfl
theorem Out.loop_inl {junk : List Nat} {o : Out} {ρ : Env} (h : o.loop junk = some (.inl ρ)) : ∃ ρ2, (o = .nx ρ2 ∨ o = .ct ρ2) ∧ fgs junk ρ2 = ρ := by
  cases o with
  | nx ρ2 => cases h; exact ⟨ρ2, .inl rfl, rfl⟩
  | ct ρ2 => cases h; exact ⟨ρ2, .inr rfl, rfl⟩
  | _ => cases h
theorem turn_inl {junk : List Nat} {ρ ρ' : Env} {d : D} {body : SM} {gm : GM} (h : turn junk ρ d body gm = some (.inl ρ')) : ∃ ρ1, gm ρ d = some ρ1 ∧ ∃ ρ2, (body ρ1 = .nx ρ2 ∨ body ρ1 = .ct ρ2) ∧ fgs junk ρ2 = ρ' := by
  unfold turn at h
  cases e : gm ρ d with
  | none => rw [e] at h; cases h
  | some ρ1 => rw [e] at h; exact ⟨ρ1, rfl, Out.loop_inl h⟩
theorem turn_inr {junk : List Nat} {ρ : Env} {d d' : D} {body : SM} {gm : GM} (h : turn junk ρ d body gm = some (.inr d')) : ∃ ρ1, gm ρ d = some ρ1 ∧ body ρ1 = .rt d' := by
  unfold turn at h
  cases e : gm ρ d with
  | none => rw [e] at h; cases h
  | some ρ1 =>
    rw [e] at h
    dsimp only at h
    refine ⟨ρ1, rfl, ?_⟩
    cases o : body ρ1 with
    | rt x => rw [o] at h; cases h; rfl
    | _ => rw [o] at h; cases h
/-- .. as they are used: the invariant knows the turn's number -/
theorem forD_runA {α σ : Type} {junk : List Nat} {gm : GM} {body : SM} (enc : α → D) (E : σ → Env) (step : σ → α → σ) (I : Nat → σ → Prop) : ∀ (xs : List α) (k : Nat) (s : σ), I k s →
    (∀ i s x, xs[i]? = some x → I (k + i) s → turn junk (E s) (enc x) body gm = some (.inl (E (step s x))) ∧ I (k + i + 1) (step s x)) → forD junk gm body (xs.map enc) (E s) = .nx (E (xs.foldl step s)) ∧ I (k + xs.length) (xs.foldl step s)
  | [], k, s, hs, _ => ⟨rfl, hs⟩
  | x :: xs, k, s, hs, h => by
    obtain ⟨t, i⟩ := h 0 s x rfl hs
    obtain ⟨ρ1, e1, ρ2, e2, e3⟩ := turn_inl t
    have ih := forD_runA enc E step I xs (k + 1) (step s x) i fun i s y hy hI => by
      have := h (i + 1) s y hy (by rw [show k + (i + 1) = k + 1 + i from by omega]; exact hI)
      rw [show k + (i + 1) = k + 1 + i from by omega] at this
      exact this
    refine ⟨?_, by rw [List.length_cons, show k + (xs.length + 1) = k + 1 + xs.length from by omega]; exact ih.2⟩
    show forD junk gm body (enc x :: xs.map enc) (E s) = _
    unfold forD
    rw [e1]
    dsimp only
    rcases e2 with e2 | e2 <;> rw [e2] <;> dsimp only <;> rw [e3] <;> exact ih.1
theorem forD_run {α σ : Type} {junk : List Nat} {gm : GM} {body : SM} {ds : List D} {ρ0 : Env} (enc : α → D) (E : σ → Env) (step : σ → α → σ) (I : Nat → σ → Prop) (xs : List α) (s : σ) (hds : ds = xs.map enc) (hρ : ρ0 = E s) (hI : I 0 s)
    (h : ∀ i s x, xs[i]? = some x → I i s → turn junk (E s) (enc x) body gm = some (.inl (E (step s x))) ∧ I (i + 1) (step s x)) : forD junk gm body ds ρ0 = .nx (E (xs.foldl step s)) ∧ I xs.length (xs.foldl step s) := by
  subst hds hρ
  have := forD_runA enc E step I xs 0 s hI fun i s x hx hi => by rw [Nat.zero_add] at hi ⊢; exact h i s x hx hi
  rw [Nat.zero_add] at this
  exact this
theorem forD_runRA {α σ : Type} {junk : List Nat} {gm : GM} {body : SM} (enc : α → D) (E : σ → Env) (step : σ → α → Sum σ D) (I : Nat → σ → Prop) : ∀ (xs : List α) (k : Nat) (s : σ), I k s →
    (∀ i s x, xs[i]? = some x → I (k + i) s → match step s x with
      | .inl s' => turn junk (E s) (enc x) body gm = some (.inl (E s')) ∧ I (k + i + 1) s'
      | .inr d => turn junk (E s) (enc x) body gm = some (.inr d)) →
    match foldR step xs s with
      | .inl s' => forD junk gm body (xs.map enc) (E s) = .nx (E s') ∧ I (k + xs.length) s'
      | .inr d => forD junk gm body (xs.map enc) (E s) = .rt d
  | [], k, s, hs, _ => ⟨rfl, hs⟩
  | x :: xs, k, s, hs, h => by
    have t := h 0 s x rfl hs
    unfold foldR
    cases q : step s x with
    | inl s' =>
      rw [q] at t
      obtain ⟨ρ1, e1, ρ2, e2, e3⟩ := turn_inl t.1
      have ih := forD_runRA enc E step I xs (k + 1) s' t.2 fun i s y hy hI => by
        have := h (i + 1) s y hy (by rw [show k + (i + 1) = k + 1 + i from by omega]; exact hI)
        rw [show k + (i + 1) = k + 1 + i from by omega] at this
        exact this
      have e : forD junk gm body ((x :: xs).map enc) (E s) = forD junk gm body (xs.map enc) (E s') := by
        show forD junk gm body (enc x :: xs.map enc) (E s) = _
        conv => lhs; unfold forD
        rw [e1]
        dsimp only
        rcases e2 with e2 | e2 <;> rw [e2] <;> dsimp only <;> rw [e3]
      dsimp only
      rw [e, List.length_cons, show k + (xs.length + 1) = k + 1 + xs.length from by omega]
      exact ih
    | inr d =>
      rw [q] at t
      obtain ⟨ρ1, e1, e2⟩ := turn_inr t
      show forD junk gm body (enc x :: xs.map enc) (E s) = _
      unfold forD
      rw [e1]
      dsimp only
      rw [e2]
theorem forD_runR {α σ : Type} {junk : List Nat} {gm : GM} {body : SM} {ds : List D} {ρ0 : Env} (enc : α → D) (E : σ → Env) (step : σ → α → Sum σ D) (I : Nat → σ → Prop) (xs : List α) (s : σ) (hds : ds = xs.map enc) (hρ : ρ0 = E s) (hI : I 0 s)
    (h : ∀ i s x, xs[i]? = some x → I i s → match step s x with
      | .inl s' => turn junk (E s) (enc x) body gm = some (.inl (E s')) ∧ I (i + 1) s'
      | .inr d => turn junk (E s) (enc x) body gm = some (.inr d)) :
    match foldR step xs s with
      | .inl s' => forD junk gm body ds ρ0 = .nx (E s') ∧ I xs.length s'
      | .inr d => forD junk gm body ds ρ0 = .rt d := by
  subst hds hρ
  have := forD_runRA enc E step I xs 0 s hI fun i s x hx hi => by rw [Nat.zero_add] at hi ⊢; exact h i s x hx hi
  rw [Nat.zero_add] at this
  exact this

/-! ### sides, cells, floors -/
inductive Side where
  | n | e | s | w
  deriving DecidableEq
def Side.str : Side → Str
  | .n => "n" | .e => "e" | .s => "s" | .w => "w"
def sides : List Side := [.n, .e, .s, .w]
@[simp] theorem Side.ok (s : Side) : PyData.strOk s.str = true := by cases s <;> exact ok_lit _
theorem Side.str_inj {a b : Side} (h : a.str = b.str) : a = b := by
  cases a <;> cases b <;> first | rfl | exact absurd h (by decide)
def Side.pick {α : Type} (a b c d : α) : Side → α
  | .n => a | .e => b | .s => c | .w => d
@[simp] theorem pick_int (a b c d : Int) (s : Side) : Side.pick (D.int a) (D.int b) (D.int c) (D.int d) s = .int (Side.pick a b c d s) := by cases s <;> rfl
abbrev Side.dx (s : Side) : Int := Side.pick 0 1 0 (-1) s
abbrev Side.dy (s : Side) : Int := Side.pick (-1) 0 1 0 s
theorem same_lit (s t : String) : D.same (.str (Str.ofString s)) (.str (Str.ofString t)) = decide (s = t) := by
  show decide (Str.ofString s = Str.ofString t) = _
  simp
@[simp] theorem idx_nesw (a b c d : D) (s : Side) : D.idx (.dct false (mergeD [(.str "n", a), (.str "e", b), (.str "s", c), (.str "w", d)])) (.str s.str) = some (s.pick a b c d) := by
  have e : mergeD [(.str "n", a), (.str "e", b), (.str "s", c), (.str "w", d)] = [(.str "n", a), (.str "e", b), (.str "s", c), (.str "w", d)] := by
    simp [mergeD, D.put, same_lit]
  rw [e]
  show D.find _ _ = _
  cases s <;> simp [D.find, Side.str, same_lit, Side.pick]
/-- a kind: a, b, c -/
def kindS (k : Nat) : Str := ⟨#[97 + k]⟩
inductive Cell where
  | wall | fin | belt (s : Side) | parter (s t : Side) | well (s : Side) (k w : Nat)
  deriving DecidableEq
def Cell.enc : Cell → D
  | .wall => .tup [.str "wall"]
  | .fin => .tup [.str "end"]
  | .belt s => .tup [.str "belt", .str s.str]
  | .parter s t => .tup [.str "parter", .str s.str, .str t.str]
  | .well s k w => .tup [.str "well", .str s.str, .str (kindS k), .int w]
def Cell.Ok : Cell → Prop
  | .parter s t => s ≠ t
  | .well _ k w => k < 3 ∧ 1 ≤ w ∧ w ≤ 5
  | _ => True
def Cell.word : Cell → Str
  | .wall => "wall" | .fin => "end" | .belt _ => "belt" | .parter _ _ => "parter" | .well _ _ _ => "well"
@[simp] theorem word_idx (c : Cell) : D.idx c.enc (.int 0) = some (.str c.word) := by cases c <;> rfl
@[simp] theorem Cell.word_ok (c : Cell) : PyData.strOk c.word = true := by cases c <;> exact ok_lit _
theorem kindS_inj {k j : Nat} (h : kindS k = kindS j) : k = j := by
  unfold kindS at h
  injection h with h
  have := congrArg Array.toList h
  simp at this
  exact this
theorem Cell.enc_inj {a b : Cell} (h : a.enc = b.enc) : a = b := by
  have w : a.word = b.word := by
    have := word_idx a
    rw [h, word_idx b] at this
    injection this with this
    injection this with this
    exact this.symm
  cases a <;> cases b <;> simp [Cell.word] at w <;> simp [Cell.enc] at h ⊢
  · exact Side.str_inj h
  · exact ⟨Side.str_inj h.1, Side.str_inj h.2⟩
  · exact ⟨Side.str_inj h.1, kindS_inj h.2.1, by omega⟩
theorem kindS_ok {k : Nat} (h : k < 1000) : PyData.strOk (kindS k) = true := by
  unfold kindS PyData.strOk
  simp
  omega
theorem Cell.cl (c : Cell) : c.enc.cl = true := by cases c <;> rfl
theorem Cell.sh {c : Cell} (h : c.Ok) : D.sh 1 c.enc = true := by
  cases c with
  | well s k w =>
    have := h.1
    simp [Cell.enc, D.sh, kindS_ok (show k < 1000 by omega)]
  | _ => simp [Cell.enc, D.sh]
theorem Cell.d_eq {a b : Cell} (ha : a.Ok) (hb : b.Ok) : D.eq a.enc b.enc = some (.bl (decide (a = b))) := d_eq_cl a.cl b.cl (Cell.sh ha) (Cell.sh hb) (h := ⟨Cell.enc_inj, fun e => by rw [e]⟩)
theorem Cell.d_ne {a b : Cell} (ha : a.Ok) (hb : b.Ok) : D.ne a.enc b.enc = some (.bl (!decide (a = b))) := d_ne_cl a.cl b.cl (Cell.sh ha) (Cell.sh hb) (h := ⟨Cell.enc_inj, fun e => by rw [e]⟩)
def Cell.outs : Cell → List Side
  | .belt s => [s]
  | .well s _ _ => [s]
  | .parter s t => [s, t]
  | _ => []
structure Fl where
  wide : Nat
  high : Nat
  cells : List Cell
structure Fl.Ok (f : Fl) : Prop where
  w1 : 1 ≤ f.wide
  w6 : f.wide ≤ 6
  h1 : 1 ≤ f.high
  h5 : f.high ≤ 5
  len : f.cells.length = f.wide * f.high
  ok : ∀ c ∈ f.cells, c.Ok
def Fl.enc (f : Fl) : D := .tup [.int f.wide, .int f.high, .tup (f.cells.map Cell.enc)]
@[simp] theorem Fl.enc_0 (f : Fl) : D.idx f.enc (.int 0) = some (.int f.wide) := idx_t0 _ _
@[simp] theorem Fl.enc_1 (f : Fl) : D.idx f.enc (.int 1) = some (.int f.high) := idx_t1 _ _ _
@[simp] theorem Fl.enc_2 (f : Fl) : D.idx f.enc (.int 2) = some (.tup (f.cells.map Cell.enc)) := idx_t2 _ _ _ _
def Fl.at (f : Fl) (c : Nat) : Cell := f.cells.getD c .wall
def Fl.size (f : Fl) : Nat := f.cells.length
theorem Fl.size_le {f : Fl} (h : f.Ok) : f.size ≤ 30 := by
  unfold Fl.size; rw [h.len]
  exact Nat.le_trans (Nat.mul_le_mul h.w6 h.h5) (by decide)
theorem Fl.get {f : Fl} {c : Nat} (h : c < f.size) : f.cells[c]? = some (f.at c) := by
  unfold Fl.at; rw [List.getD_eq_getElem?_getD, List.getElem?_eq_getElem h]; rfl
theorem Fl.cell {f : Fl} {c : Nat} (h : c < f.size) : D.idx (.tup (f.cells.map Cell.enc)) (.int (c : Int)) = some (f.at c).enc :=
  idx_t (by rw [List.getElem?_map, Fl.get h]; rfl)
theorem Fl.place {f : Fl} (h : f.Ok) {a d : Int} (h1 : 0 ≤ a) (h2 : a < f.wide) (h3 : 0 ≤ d) (h4 : d < f.high) : ∃ t : Nat, d * f.wide + a = t ∧ t < f.size := by
  have h0 : 0 ≤ d * f.wide := Int.mul_nonneg h3 (Int.natCast_nonneg _)
  refine ⟨(d * f.wide + a).toNat, (Int.toNat_of_nonneg (by omega)).symm, ?_⟩
  unfold Fl.size
  rw [h.len]
  have : d * f.wide + a < (f.high : Int) * f.wide := by
    have h5 : (d + 1) * (f.wide : Int) ≤ (f.high : Int) * f.wide := Int.mul_le_mul_of_nonneg_right (by omega) (Int.natCast_nonneg _)
    rw [Int.add_mul] at h5
    omega
  rw [Nat.mul_comm]
  omega
@[simp] theorem word_wall (c : Cell) : c.word = Str.ofString "wall" ↔ c = .wall := by cases c <;> simp [Cell.word]
@[simp] theorem word_end (c : Cell) : c.word = Str.ofString "end" ↔ c = .fin := by cases c <;> simp [Cell.word]
theorem Fl.at_ok {f : Fl} (h : f.Ok) (c : Nat) : (f.at c).Ok := by
  unfold Fl.at
  rw [List.getD_eq_getElem?_getD]
  cases q : f.cells[c]? with
  | none => trivial
  | some x => exact h.ok x (List.mem_of_getElem? q)
def encO : Option Nat → D
  | none => .non
  | some n => .int (n : Int)
def Fl.toI (f : Fl) (c : Nat) (s : Side) : Int × Int := (((c % f.wide : Nat) : Int) + s.dx, ((c / f.wide : Nat) : Int) + s.dy)
def Fl.beside (f : Fl) (c : Nat) (s : Side) : Option Nat :=
  let a : Int := ((c % f.wide : Nat) : Int) + s.dx
  let d : Int := ((c / f.wide : Nat) : Int) + s.dy
  if 0 ≤ a ∧ a < f.wide ∧ 0 ≤ d ∧ d < f.high then
    (if f.at (d * f.wide + a).toNat = .wall then none else some (d * f.wide + a).toNat)
  else none
def Fl.goals (f : Fl) (c : Nat) : List Nat := (f.at c).outs.filterMap (f.beside c)
def Fl.comers (f : Fl) (c : Nat) : List Nat := (sides.filterMap (f.beside c)).filter fun o => decide (c ∈ f.goals o)
theorem mod_w {f : Fl} (ok : f.Ok) (c : Int) : D.mod (.int c) (.int f.wide) = some (.int (c % f.wide)) := d_mod _ _ (by have := ok.w1; omega)
theorem div_w {f : Fl} (ok : f.Ok) (c : Int) : D.fdiv (.int c) (.int f.wide) = some (.int (c / f.wide)) := d_fdiv _ _ (by have := ok.w1; omega) (by have := ok.w6; omega)
theorem mul_w {f : Fl} (ok : f.Ok) (c : Int) : D.mul (.int c) (.int f.wide) = some (.int (c * f.wide)) := d_mul _ _ (.inr (by have := ok.w6; simp [smallI]; omega))
theorem beside_lt {f : Fl} (ok : f.Ok) {c t : Nat} {s : Side} (h : f.beside c s = some t) : t < f.size := by
  unfold Fl.beside at h
  dsimp only at h
  split at h
  · rename_i q
    obtain ⟨t', e, ht⟩ := Fl.place ok q.1 q.2.1 q.2.2.1 q.2.2.2
    rw [e] at h
    simp at h
    omega
  · cases h
theorem outs_len (c : Cell) : c.outs.length ≤ 2 := by cases c <;> simp [Cell.outs]
theorem fm_enc (g : Side → Option Nat) : ∀ l : List Side, ((l.map g).filter fun o => o.isSome).map encO = nats (l.filterMap g)
  | [] => rfl
  | s :: l => by
    have ih := fm_enc g l
    unfold nats at ih ⊢
    cases h : g s with
    | none => simp [h, ih]
    | some n => simp [h, ih, encO]
theorem goals_lt {f : Fl} (ok : f.Ok) {c t : Nat} (h : t ∈ f.goals c) : t < f.size := by
  unfold Fl.goals at h
  obtain ⟨s, _, e⟩ := List.mem_filterMap.mp h
  exact beside_lt ok e
theorem goals_len (f : Fl) (c : Nat) : (f.goals c).length ≤ 2 := Nat.le_trans (List.length_filterMap_le _ _) (outs_len _)
theorem comers_lt {f : Fl} (ok : f.Ok) {c t : Nat} (h : t ∈ f.comers c) : t < f.size := by
  unfold Fl.comers at h
  obtain ⟨s, _, e⟩ := List.mem_filterMap.mp (List.mem_filter.mp h).1
  exact beside_lt ok e
theorem comers_len (f : Fl) (c : Nat) : (f.comers c).length ≤ 4 := Nat.le_trans (List.length_filter_le _ _) (List.length_filterMap_le _ sides)
def Fl.comeStep (f : Fl) (c : Nat) (l : List Nat) (s : Side) : List Nat := match f.beside c s with
  | some o => if c ∈ f.goals o then l ++ [o] else l
  | none => l
theorem comeStep_fold (f : Fl) (c : Nat) : ∀ (ss : List Side) (l : List Nat), ss.foldl (f.comeStep c) l = l ++ (ss.filterMap (f.beside c)).filter fun o => decide (c ∈ f.goals o)
  | [], l => by simp
  | s :: ss, l => by
    rw [List.foldl_cons, comeStep_fold f c ss]
    unfold Fl.comeStep
    cases h : f.beside c s with
    | none => simp [h]
    | some o => by_cases hc : c ∈ f.goals o <;> simp [h, hc]
theorem idx_nesw_str (j : Int) (h : 0 ≤ j) (h4 : j < 4) : ∃ s : Side, D.idx (.str "nesw") (.int j) = some (.str s.str) ∧ s = ([Side.n, .e, .s, .w]).getD j.toNat .n := by
  have : j = 0 ∨ j = 1 ∨ j = 2 ∨ j = 3 := by omega
  rcases this with h | h | h | h <;> subst h
  · exact ⟨.n, by with_unfolding_all rfl, rfl⟩
  · exact ⟨.e, by with_unfolding_all rfl, rfl⟩
  · exact ⟨.s, by with_unfolding_all rfl, rfl⟩
  · exact ⟨.w, by with_unfolding_all rfl, rfl⟩
theorem idx_abc_str (j : Int) (h : 0 ≤ j) (h4 : j < 3) : D.idx (.str "abc") (.int j) = some (.str (kindS j.toNat)) := by
  have : j = 0 ∨ j = 1 ∨ j = 2 := by omega
  rcases this with h | h | h <;> subst h
  · with_unfolding_all rfl
  · with_unfolding_all rfl
  · with_unfolding_all rfl
theorem index_nesw (s : Side) : mIndexS (.str "nesw") [.str s.str] = some (.int (s.pick 0 1 2 3)) := by
  cases s <;> with_unfolding_all rfl
/-- the number at place k of the script -/
def cellI (ns : List Int) (k : Nat) : Int := ns.getD k 0
theorem idx_scr {ns : List Int} {k : Nat} (h : k < ns.length) : D.idx (.scr ns) (.int (k : Int)) = some (.int (cellI ns k)) := by
  show (atI ns (k : Int)).map D.int = _
  rw [atI_nat (List.getElem?_eq_getElem h)]
  unfold cellI
  rw [List.getD_eq_getElem?_getD, List.getElem?_eq_getElem h]
  rfl
@[simp] theorem len_scr (ns : List Int) : D.len (.scr ns) = some (.int ns.length) := nr rfl
def seedI (s k : Int) : Int := ((s * 1103515245 + 7919 * k + 12345) % 2147483647) ^ 5 % 2147483647
theorem seedI_nn (s k : Int) : 0 ≤ seedI s k := Int.emod_nonneg _ (by decide)
/-- a loop that runs through, by a property of its slots -/
theorem forD_inv {junk : List Nat} {gm : GM} {body : SM} (P : Nat → Env → Prop) : ∀ (ds : List D) (k : Nat) (ρ : Env), P k ρ → (∀ i d ρ, ds[i]? = some d → P (k + i) ρ → ∃ ρ', turn junk ρ d body gm = some (.inl ρ') ∧ P (k + i + 1) ρ') → ∃ ρ', forD junk gm body ds ρ = .nx ρ' ∧ P (k + ds.length) ρ'
  | [], k, ρ, h, _ => ⟨ρ, rfl, h⟩
  | d :: ds, k, ρ, h, hs => by
    obtain ⟨ρ', t, h'⟩ := hs 0 d ρ rfl h
    obtain ⟨ρ1, e1, ρ2, e2, e3⟩ := turn_inl t
    obtain ⟨ρ3, e4, h3⟩ := forD_inv P ds (k + 1) ρ' h' fun i d ρ hd hp => by
      have := hs (i + 1) d ρ hd (by rw [show k + (i + 1) = k + 1 + i from by omega]; exact hp)
      rw [show k + (i + 1) = k + 1 + i from by omega] at this
      exact this
    refine ⟨ρ3, ?_, by rw [List.length_cons, show k + (ds.length + 1) = k + 1 + ds.length from by omega]; exact h3⟩
    unfold forD
    rw [e1]
    dsimp only
    rcases e2 with e2 | e2 <;> rw [e2] <;> dsimp only <;> rw [e3] <;> exact e4
theorem rg1_nat {n : Nat} (h : n ≤ 1000000) : rg1 [.int (n : Int)] = some (nats (List.range n)) := by
  have h1 : (decide (-(2 ^ 62) ≤ (n : Int)) && decide ((n : Int) < 2 ^ 62)) = true := by
    rw [Bool.and_eq_true, decide_eq_true_eq, decide_eq_true_eq]
    constructor <;> omega
  unfold rg1
  dsimp only
  rw [if_pos h1, Int.toNat_natCast]
  rfl
theorem setAt_l {ds : List D} {k : Nat} (h : k < ds.length) (v : D) : D.setAt (.lst ds) (.int (k : Int)) v = some (.lst (ds.set k v)) := by
  show (ixN ds.length (k : Int)).map _ = _
  rw [ixN_nat h]; rfl
theorem setAt_last {ds : List D} (h : 0 < ds.length) (v : D) : D.setAt (.lst ds) (.int (-1)) v = some (.lst (ds.set (ds.length - 1) v)) := by
  show (ixN ds.length (-1)).map _ = _
  unfold ixN
  rw [if_neg (by decide), if_pos (by omega)]
  show some _ = _
  rw [show ((-1 : Int) + (ds.length : Int)).toNat = ds.length - 1 from by omega]
/-- a loop named, by a property of its slots -/
theorem inv_of {junk : List Nat} {gm : GM} {body : SM} {ds : List D} {ρ : Env} {X : Out} (hX : forD junk gm body ds ρ = X) (P : Nat → Env → Prop) (h0 : P 0 ρ) (hs : ∀ i d ρ, ds[i]? = some d → P i ρ → ∃ ρ', turn junk ρ d body gm = some (.inl ρ') ∧ P (i + 1) ρ') : ∃ ρ', X = .nx ρ' ∧ P ds.length ρ' := by
  obtain ⟨ρ', e, h⟩ := forD_inv P ds 0 ρ h0 fun i d ρ hd hp => by rw [Nat.zero_add] at hp ⊢; exact hs i d ρ hd hp
  rw [Nat.zero_add] at h
  exact ⟨ρ', hX.symm.trans e, h⟩
theorem nats_range_get {n i : Nat} {d : D} (h : (nats (List.range n))[i]? = some d) : i < n ∧ d = .int (i : Int) := by
  have hi : i < n := by have := (List.getElem?_eq_some_iff.mp h).1; simpa using this
  rw [nats_get (List.getElem?_range hi)] at h
  cases h
  exact ⟨hi, rfl⟩
end L2.Pv

set_option Elab.async false
set_option linter.all false
set_option maxRecDepth 100000
set_option maxHeartbeats 4000000
set_option autoImplicit false
/-! while; sorted numbers; what is come to from a cell. -/
namespace L2.Pv
open PySem PySem.Spec PyProof.Rows

/-! ### while -/
def iterW {σ : Type} (cond : σ → Bool) (step : σ → σ) : Nat → σ → σ
  | 0, s => s
  | n + 1, s => if cond s then iterW cond step n (step s) else s
theorem while_run {σ : Type} {junk : List Nat} {p : TM} {body : SM} (E : σ → Env) (cond : σ → Bool) (step : σ → σ) (meas : σ → Nat) (I : σ → Prop)
    (hp : ∀ s, I s → p (E s) = .ok (cond s)) (hb : ∀ s, I s → cond s = true → (body (E s)).loop junk = some (.inl (E (step s))) ∧ I (step s) ∧ meas (step s) < meas s) :
    ∀ (n : Nat) (s : σ), I s → meas s < n → whileD junk p body n (E s) = .nx (E (iterW cond step n s)) ∧ I (iterW cond step n s) ∧ cond (iterW cond step n s) = false
  | 0, s, _, h => absurd h (Nat.not_lt_zero _)
  | n + 1, s, hs, h => by
    unfold whileD iterW
    rw [hp s hs]
    show (if cond s = true then _ else _) = _ ∧ _
    cases hc : cond s with
    | false => exact ⟨rfl, hs, hc⟩
    | true =>
      obtain ⟨b1, b2, b3⟩ := hb s hs hc
      obtain ⟨ρ2, e2, e3⟩ := Out.loop_inl b1
      have ih := while_run E cond step meas I hp hb n (step s) b2 (by omega)
      rw [if_pos rfl, if_pos rfl]
      refine ⟨?_, ih.2⟩
      rcases e2 with e2 | e2 <;> rw [e2] <;> dsimp only <;> rw [e3] <;> exact ih.1

/-! ### sorted numbers -/
def castL (l : List Nat) : List Int := l.map fun n : Nat => (n : Int)
def sortN (l : List Nat) : List Nat := (sortI (castL l)).map Int.toNat
theorem castL_toNat (l : List Nat) : (castL l).map Int.toNat = l := by
  unfold castL; rw [List.map_map]; simp [Function.comp_def]
theorem sortN_perm (l : List Nat) : (sortN l).Perm l := by
  have := (sortI_perm (castL l)).map Int.toNat
  rw [castL_toNat] at this
  exact this
theorem sortN_cast (l : List Nat) : (sortN l).map (fun n : Nat => (n : Int)) = sortI (castL l) := by
  unfold sortN
  rw [List.map_map]
  have : ∀ x ∈ sortI (castL l), ((fun n : Nat => (n : Int)) ∘ Int.toNat) x = id x := fun x hx => by
    have := (sortI_perm (castL l)).mem_iff.mp hx
    obtain ⟨n, _, e⟩ := List.mem_map.mp this
    rw [← e]; rfl
  rw [List.map_congr_left this, List.map_id]
theorem sortN_sorted (l : List Nat) : (sortN l).Pairwise (· ≤ ·) := by
  have h := sortI_sorted (castL l)
  rw [← sortN_cast, List.pairwise_map] at h
  exact h.imp fun h => by omega
theorem sortN_one {l m : List Nat} (p : l.Perm m) (h : m.Pairwise (· ≤ ·)) : sortN l = m :=
  List.Perm.eq_of_pairwise (fun a b _ _ c d => Nat.le_antisymm c d) (sortN_sorted l) h ((sortN_perm l).trans p)
theorem sortN_same {l m : List Nat} (hl : l.Nodup) (hm : m.Nodup) (h : ∀ x, x ∈ l ↔ x ∈ m) : sortN l = sortN m :=
  sortN_one (((List.perm_ext_iff_of_nodup hl hm).mpr h).trans (sortN_perm m).symm) (sortN_sorted m)
@[simp] theorem mem_sortN {l : List Nat} {x : Nat} : x ∈ sortN l ↔ x ∈ l := (sortN_perm l).mem_iff
theorem sortN_len (l : List Nat) : (sortN l).length = l.length := (sortN_perm l).length_eq
theorem ints_nats : ∀ l : List Nat, D.ints (nats l) = some (castL l)
  | [] => rfl
  | n :: l => by
    show (D.ints (nats l)).map _ = _
    rw [ints_nats l]; rfl
theorem sorted_nats {l : List Nat} (h : l.length < 64) : bSorted [.lst (nats l)] = some (.lst (nats (sortN l))) := by
  show (D.ints (nats l)).bind _ = _
  rw [ints_nats]
  show (if (castL l).length < 64 then _ else _) = _
  rw [if_pos (by unfold castL; simpa using h), ← sortN_cast]
  unfold nats
  rw [List.map_map]; rfl
theorem len_sub {α : Type} [DecidableEq α] : ∀ {l m : List α}, l.Nodup → (∀ x ∈ l, x ∈ m) → l.length ≤ m.length
  | [], _, _, _ => Nat.zero_le _
  | x :: l, m, h, hs => by
    obtain ⟨h1, h2⟩ := List.nodup_cons.mp h
    have hx := hs x List.mem_cons_self
    have := len_sub (m := m.erase x) h2 fun y hy => (List.mem_erase_of_ne (fun e : y = x => h1 (by rw [← e]; exact hy))).mpr (hs y (List.mem_cons_of_mem _ hy))
    rw [List.length_erase_of_mem hx] at this
    have := List.length_pos_of_mem hx
    simp
    omega
/-- numbers below n, none twice: at most n -/
theorem nodup_len {l : List Nat} {n : Nat} (h : l.Nodup) (hb : ∀ x ∈ l, x < n) : l.length ≤ n := by
  have := len_sub h fun x hx => List.mem_range.mpr (hb x hx)
  rwa [List.length_range] at this

/-! ### what is come to -/
inductive To (G : Nat → List Nat) : Nat → Nat → Prop
  | here (c : Nat) : To G c c
  | on {c a b : Nat} : To G c a → b ∈ G a → To G c b
theorem To.trans {G : Nat → List Nat} {a b c : Nat} (h : To G a b) (k : To G b c) : To G a c := by
  induction k with
  | here => exact h
  | on _ hb ih => exact .on ih hb
theorem To.lt {G : Nat → List Nat} {n c x : Nat} (hG : ∀ a b, b ∈ G a → b < n) (hc : c < n) (h : To G c x) : x < n := by
  cases h with
  | here => exact hc
  | on _ hb => exact hG _ _ hb
/-- a list of what is come to, that no step leaves -/
structure ToList (G : Nat → List Nat) (c : Nat) (l : List Nat) : Prop where
  nd : l.Nodup
  mem : ∀ x, x ∈ l ↔ To G c x
theorem ToList.of {G : Nat → List Nat} {c : Nat} {l : List Nat} (nd : l.Nodup) (hc : c ∈ l) (ok : ∀ x ∈ l, To G c x) (cl : ∀ x ∈ l, ∀ y ∈ G x, y ∈ l) : ToList G c l :=
  ⟨nd, fun x => ⟨ok x, fun h => by
    induction h with
    | here => exact hc
    | on _ hb ih => exact cl _ ih _ hb⟩⟩
/-! by rows: found, and how many are looked at -/
def bfsCond (s : List Nat × Nat) : Bool := decide (s.2 < s.1.length)
def bfsStep (G : Nat → List Nat) (s : List Nat × Nat) : List Nat × Nat := (s.1 ++ (G (s.1.getD s.2 0)).filter fun x => !decide (x ∈ s.1), s.2 + 1)
structure BfsOk (G : Nat → List Nat) (n c : Nat) (s : List Nat × Nat) : Prop where
  nd : s.1.Nodup
  lt : ∀ x ∈ s.1, x < n
  hc : c ∈ s.1
  at_ : s.2 ≤ s.1.length
  ok : ∀ x ∈ s.1, To G c x
  cl : ∀ i, i < s.2 → ∀ y ∈ G (s.1.getD i 0), y ∈ s.1
theorem getD_app {l m : List Nat} {i : Nat} (h : i < l.length) : (l ++ m).getD i 0 = l.getD i 0 := by
  rw [List.getD_eq_getElem?_getD, List.getD_eq_getElem?_getD, List.getElem?_append_left h]
theorem getD_mem {l : List Nat} {i : Nat} (h : i < l.length) : l.getD i 0 ∈ l := by
  rw [List.getD_eq_getElem?_getD, List.getElem?_eq_getElem h]
  exact List.getElem_mem h
theorem bfs_step {G : Nat → List Nat} {n c : Nat} (hG : ∀ a b, b ∈ G a → b < n) (hn : ∀ a, (G a).Nodup) {s : List Nat × Nat} (h : BfsOk G n c s) (hc : bfsCond s = true) : BfsOk G n c (bfsStep G s) := by
  have hlt : s.2 < s.1.length := of_decide_eq_true hc
  have hm := getD_mem hlt
  unfold bfsStep
  refine ⟨?_, fun x hx => ?_, List.mem_append_left _ h.hc, ?_, fun x hx => ?_, fun i hi y hy => ?_⟩
  · refine List.nodup_append.mpr ⟨h.nd, (hn _).filter _, fun a ha b hb e => ?_⟩
    subst e
    have := (List.mem_filter.mp hb).2
    simp at this
    exact this ha
  · rcases List.mem_append.mp hx with hx | hx
    · exact h.lt x hx
    · exact hG _ _ (List.mem_filter.mp hx).1
  · show s.2 + 1 ≤ (s.1 ++ _).length
    rw [List.length_append]; omega
  · rcases List.mem_append.mp hx with hx | hx
    · exact h.ok x hx
    · exact .on (h.ok _ hm) (List.mem_filter.mp hx).1
  · have hi : i < s.2 + 1 := hi
    have hy : y ∈ G ((s.1 ++ (G (s.1.getD s.2 0)).filter fun x => !decide (x ∈ s.1)).getD i 0) := hy
    rw [getD_app (by omega)] at hy
    by_cases e : i = s.2
    · subst e
      by_cases hm : y ∈ s.1
      · exact List.mem_append_left _ hm
      · exact List.mem_append_right _ (List.mem_filter.mpr ⟨hy, by simp [hm]⟩)
    · exact List.mem_append_left _ (h.cl i (by omega) y hy)
theorem bfs_done {G : Nat → List Nat} {n c : Nat} {s : List Nat × Nat} (h : BfsOk G n c s) (hc : bfsCond s = false) : ToList G c s.1 := by
  have hge : s.1.length ≤ s.2 := by
    have := of_decide_eq_false hc
    omega
  refine .of h.nd h.hc h.ok fun x hx y hy => ?_
  obtain ⟨i, hi, e⟩ := List.getElem_of_mem hx
  refine h.cl i (by omega) y ?_
  rw [List.getD_eq_getElem?_getD, List.getElem?_eq_getElem hi]
  show y ∈ G (s.1[i])
  rw [e]; exact hy
theorem bfs_meas {G : Nat → List Nat} {n c : Nat} {s : List Nat × Nat} (h : BfsOk G n c s) (hc : bfsCond s = true) : n + 1 - (bfsStep G s).2 < n + 1 - s.2 := by
  have hlt : s.2 < s.1.length := of_decide_eq_true hc
  have := nodup_len h.nd h.lt
  show n + 1 - (s.2 + 1) < _
  omega
theorem bfs_zero {G : Nat → List Nat} {n c : Nat} (hc : c < n) : BfsOk G n c ([c], 0) :=
  ⟨by simp, fun x hx => by rw [List.mem_singleton.mp hx]; exact hc, List.mem_singleton.mpr rfl, Nat.zero_le _, fun x hx => by rw [List.mem_singleton.mp hx]; exact .here c, fun i hi => absurd hi (Nat.not_lt_zero _)⟩
/-! by rounds -/
def addK (l : List Nat) (x : Nat) : List Nat := if x ∈ l then l else l ++ [x]
theorem addK_mem {l : List Nat} {x y : Nat} : y ∈ addK l x ↔ y ∈ l ∨ y = x := by
  unfold addK
  split
  · rename_i h
    exact ⟨.inl, fun q => by rcases q with q | q; exact q; rw [q]; exact h⟩
  · simp
theorem addK_nd {l : List Nat} {x : Nat} (h : l.Nodup) : (addK l x).Nodup := by
  unfold addK
  split
  · exact h
  · rename_i hx
    exact List.nodup_append.mpr ⟨h, by simp, fun a ha b hb e => by rw [List.mem_singleton.mp hb] at e; subst e; exact hx ha⟩
theorem addKs_mem {y : Nat} : ∀ {m l : List Nat}, y ∈ m.foldl addK l ↔ y ∈ l ∨ y ∈ m
  | [], l => by simp
  | x :: m, l => by rw [List.foldl_cons, addKs_mem, addK_mem, List.mem_cons, or_assoc]
theorem addKs_nd : ∀ {m l : List Nat}, l.Nodup → (m.foldl addK l).Nodup
  | [], l, h => h
  | x :: m, l, h => addKs_nd (m := m) (addK_nd h)
def roundG (G : Nat → List Nat) (l : List Nat) : List Nat := l.foldl (fun acc o => (G o).foldl addK acc) l
theorem rounds_mem {G : Nat → List Nat} {y : Nat} : ∀ {m l : List Nat}, y ∈ m.foldl (fun acc o => (G o).foldl addK acc) l ↔ y ∈ l ∨ ∃ o ∈ m, y ∈ G o
  | [], l => by simp
  | x :: m, l => by
    rw [List.foldl_cons, rounds_mem, addKs_mem]
    simp [or_assoc]
theorem rounds_nd {G : Nat → List Nat} : ∀ {m l : List Nat}, l.Nodup → (m.foldl (fun acc o => (G o).foldl addK acc) l).Nodup
  | [], l, h => h
  | x :: m, l, h => rounds_nd (m := m) (addKs_nd h)
def roundsN (G : Nat → List Nat) : Nat → List Nat → List Nat
  | 0, l => l
  | k + 1, l => roundsN G k (roundG G l)
theorem rounds_ok {G : Nat → List Nat} {n c : Nat} (hG : ∀ a b, b ∈ G a → b < n) : ∀ (k : Nat) (l : List Nat), l.Nodup → c ∈ l → (∀ x ∈ l, To G c x ∧ x < n) → ((∀ x ∈ l, ∀ y ∈ G x, y ∈ l) ∨ n < l.length + k) → ToList G c (roundsN G k l)
  | 0, l, nd, hc, ok, cl => .of nd hc (fun x hx => (ok x hx).1) (by
      rcases cl with h | h
      · exact h
      · have := nodup_len nd fun x hx => (ok x hx).2
        omega)
  | k + 1, l, nd, hc, ok, cl => by
    have nd' : (roundG G l).Nodup := rounds_nd nd
    refine rounds_ok hG k _ nd' (rounds_mem.mpr (.inl hc)) (fun x hx => ?_) ?_
    · rcases rounds_mem.mp hx with h | ⟨o, ho, h⟩
      · exact ok x h
      · exact ⟨.on (ok o ho).1 h, hG _ _ h⟩
    · by_cases h : ∀ x ∈ l, ∀ y ∈ G x, y ∈ l
      · left
        intro x hx y hy
        have hx' : x ∈ l := by
          rcases rounds_mem.mp hx with q | ⟨o, ho, q⟩
          · exact q
          · exact h o ho x q
        exact rounds_mem.mpr (.inl (h x hx' y hy))
      · right
        rcases cl with cl | cl
        · exact absurd cl h
        · have : l.length < (roundG G l).length := by
            have ⟨x, hx⟩ := Classical.not_forall.mp h
            have ⟨hx, q⟩ := Classical.not_imp.mp hx
            have ⟨y, hy⟩ := Classical.not_forall.mp q
            have ⟨hy, hyl⟩ := Classical.not_imp.mp hy
            have := len_sub (l := y :: l) (m := roundG G l) (List.nodup_cons.mpr ⟨hyl, nd⟩) fun z hz => by
              rcases List.mem_cons.mp hz with e | hz
              · rw [e]; exact rounds_mem.mpr (.inr ⟨x, hx, hy⟩)
              · exact rounds_mem.mpr (.inl hz)
            simp at this
            omega
          omega
theorem ToList.sort {G : Nat → List Nat} {c : Nat} {l m : List Nat} (a : ToList G c l) (b : ToList G c m) : sortN l = sortN m := sortN_same a.nd b.nd fun x => (a.mem x).trans (b.mem x).symm
end L2.Pv

set_option Elab.async false
set_option linter.all false
set_option maxRecDepth 100000
set_option maxHeartbeats 4000000
set_option autoImplicit false
/-! Where cells lie to one another. -/
namespace L2.Pv
open PySem PySem.Spec PyProof.Rows

theorem beside_some {f : Fl} {c t : Nat} {s : Side} (h : f.beside c s = some t) : ∃ a d : Int, a = ((c % f.wide : Nat) : Int) + s.dx ∧ d = ((c / f.wide : Nat) : Int) + s.dy ∧ 0 ≤ a ∧ a < f.wide ∧ 0 ≤ d ∧ d < f.high ∧ d * f.wide + a = t ∧ f.at t ≠ .wall := by
  unfold Fl.beside at h
  dsimp only at h
  split at h
  · rename_i q
    obtain ⟨h1, h2, h3, h4⟩ := q
    refine ⟨_, _, rfl, rfl, h1, h2, h3, h4, ?_⟩
    have h0 := Int.mul_nonneg h3 (Int.natCast_nonneg f.wide)
    split at h
    · cases h
    · rename_i hw
      cases h
      exact ⟨by omega, hw⟩
  · cases h
theorem split_w {w : Nat} {a d a' d' : Int} (h1 : 0 ≤ a) (h2 : a < w) (h1' : 0 ≤ a') (h2' : a' < w) (h : d * w + a = d' * w + a') : d = d' ∧ a = a' := by
  have e1 : (d * w + a) / w = d := by rw [Int.add_comm, Int.add_mul_ediv_right _ _ (by omega), Int.ediv_eq_zero_of_lt h1 h2]; omega
  have e2 : (d' * w + a') / w = d' := by rw [Int.add_comm, Int.add_mul_ediv_right _ _ (by omega), Int.ediv_eq_zero_of_lt h1' h2']; omega
  have : d = d' := by rw [← e1, ← e2, h]
  subst this
  exact ⟨rfl, by omega⟩
theorem beside_inj {f : Fl} {c t : Nat} {s r : Side} (h : f.beside c s = some t) (k : f.beside c r = some t) : s = r := by
  obtain ⟨a, d, ea, ed, h1, h2, h3, h4, e, _⟩ := beside_some h
  obtain ⟨a', d', ea', ed', h1', h2', h3', h4', e', _⟩ := beside_some k
  obtain ⟨q1, q2⟩ := split_w h1 h2 h1' h2' (e.trans e'.symm)
  have x : s.dx = r.dx := by omega
  have y : s.dy = r.dy := by omega
  cases s <;> cases r <;> first | rfl | (exfalso; revert x y; simp [Side.pick])
def Side.opp : Side → Side
  | .n => .s | .e => .w | .s => .n | .w => .e
theorem opp_dx (s : Side) : s.opp.dx = -s.dx := by cases s <;> rfl
theorem opp_dy (s : Side) : s.opp.dy = -s.dy := by cases s <;> rfl
theorem beside_back {f : Fl} (ok : f.Ok) {c t : Nat} {s : Side} (hc : c < f.size) (hw : f.at c ≠ .wall) (h : f.beside c s = some t) : f.beside t s.opp = some c := by
  obtain ⟨a, d, ea, ed, h1, h2, h3, h4, e, _⟩ := beside_some h
  have w1 := ok.w1
  have hh : c / f.wide < f.high := by
    unfold Fl.size at hc
    rw [ok.len, Nat.mul_comm] at hc
    exact Nat.div_lt_of_lt_mul (by rw [Nat.mul_comm]; exact hc)
  have hm : c % f.wide < f.wide := Nat.mod_lt _ (by omega)
  have et : t = d.toNat * f.wide + a.toNat := by
    have : ((d.toNat * f.wide + a.toNat : Nat) : Int) = d * f.wide + a := by
      rw [Int.natCast_add, Int.natCast_mul, Int.toNat_of_nonneg h1, Int.toNat_of_nonneg h3]
    omega
  have tm : t % f.wide = a.toNat := by
    rw [et, Nat.add_comm, Nat.add_mul_mod_self_right, Nat.mod_eq_of_lt (by omega)]
  have td : t / f.wide = d.toNat := by
    rw [et, Nat.add_comm, Nat.add_mul_div_right _ _ (by omega), Nat.div_eq_of_lt (by omega), Nat.zero_add]
  unfold Fl.beside
  dsimp only
  rw [tm, td]
  have xa : ((a.toNat : Nat) : Int) + s.opp.dx = ((c % f.wide : Nat) : Int) := by
    have := opp_dx s; omega
  have xd : ((d.toNat : Nat) : Int) + s.opp.dy = ((c / f.wide : Nat) : Int) := by
    have := opp_dy s; omega
  rw [xa, xd]
  have hcc : ((c / f.wide : Nat) : Int) * (f.wide : Int) + ((c % f.wide : Nat) : Int) = c := by
    have := Nat.div_add_mod c f.wide
    rw [Nat.mul_comm] at this
    rw [← Int.natCast_mul, ← Int.natCast_add, this]
  rw [if_pos ⟨Int.natCast_nonneg _, Int.ofNat_lt.mpr hm, Int.natCast_nonneg _, Int.ofNat_lt.mpr hh⟩, hcc, Int.toNat_natCast, if_neg hw]
theorem outs_nd {c : Cell} (h : c.Ok) : c.outs.Nodup := by
  cases c with
  | parter s t => simp [Cell.outs]; exact h
  | _ => simp [Cell.outs]
theorem fm_nd {f : Fl} {c : Nat} : ∀ {l : List Side}, l.Nodup → (l.filterMap (f.beside c)).Nodup
  | [], _ => by simp
  | s :: l, h => by
    obtain ⟨h1, h2⟩ := List.nodup_cons.mp h
    have ih := fm_nd (f := f) (c := c) h2
    cases q : f.beside c s with
    | none => rw [List.filterMap_cons_none q]; exact ih
    | some t =>
      rw [List.filterMap_cons_some q]
      refine List.nodup_cons.mpr ⟨fun hm => ?_, ih⟩
      obtain ⟨r, hr, er⟩ := List.mem_filterMap.mp hm
      have := beside_inj q er
      subst this
      exact h1 hr
theorem goals_nd {f : Fl} (ok : f.Ok) (c : Nat) : (f.goals c).Nodup := fm_nd (outs_nd (Fl.at_ok ok c))
theorem comers_nd (f : Fl) (c : Nat) : (f.comers c).Nodup := (fm_nd (l := sides) (by decide)).filter _
theorem mem_comers {f : Fl} (ok : f.Ok) {c o : Nat} (ho : o < f.size) : o ∈ f.comers c ↔ c ∈ f.goals o := by
  constructor
  · intro h
    exact of_decide_eq_true (List.mem_filter.mp h).2
  · intro h
    refine List.mem_filter.mpr ⟨?_, decide_eq_true h⟩
    obtain ⟨s, hs, e⟩ := List.mem_filterMap.mp h
    have hw : f.at o ≠ .wall := fun q => by rw [q] at hs; simp [Cell.outs] at hs
    exact List.mem_filterMap.mpr ⟨s.opp, by cases s <;> decide, beside_back ok ho hw e⟩
/-- to go there is to come from there -/
theorem to_comers {f : Fl} (ok : f.Ok) {a b : Nat} (ha : a < f.size) (hb : b < f.size) : To f.comers a b ↔ To f.goals b a := by
  constructor
  · intro h
    induction h with
    | here => exact .here _
    | on h1 h2 ih =>
      have hlt := comers_lt ok h2
      have hm := To.lt (fun _ _ => comers_lt ok) ha h1
      exact To.trans (.on (.here _) ((mem_comers ok hlt).mp h2)) (ih hm)
  · intro h
    induction h with
    | here => exact .here _
    | on h1 h2 ih =>
      have hm := To.lt (fun _ _ => goals_lt ok) hb h1
      exact To.trans (.on (.here _) ((mem_comers ok hm).mpr h2)) (ih hm)
end L2.Pv

set_option Elab.async false
set_option linter.all false
set_option maxRecDepth 100000
set_option maxHeartbeats 4000000
set_option autoImplicit false
/-! Lists of numbers; enumerated cells. -/
namespace L2.Pv
open PySem PySem.Spec PyProof.Rows

theorem run_of {α σ : Type} {junk : List Nat} {gm : GM} {body : SM} {ds : List D} {ρ0 : Env} {X : Out} (hX : forD junk gm body ds ρ0 = X) (enc : α → D) (E : σ → Env) (step : σ → α → σ) (I : Nat → σ → Prop) (xs : List α) (s : σ) (hds : ds = xs.map enc) (hρ : ρ0 = E s) (hI : I 0 s)
    (h : ∀ i s x, xs[i]? = some x → I i s → turn junk (E s) (enc x) body gm = some (.inl (E (step s x))) ∧ I (i + 1) (step s x)) : X = .nx (E (xs.foldl step s)) ∧ I xs.length (xs.foldl step s) := by
  subst hX
  exact forD_run enc E step I xs s hds hρ hI h
theorem runR_of {α σ : Type} {junk : List Nat} {gm : GM} {body : SM} {ds : List D} {ρ0 : Env} {X : Out} (hX : forD junk gm body ds ρ0 = X) (enc : α → D) (E : σ → Env) (step : σ → α → Sum σ D) (I : Nat → σ → Prop) (xs : List α) (s : σ) (hds : ds = xs.map enc) (hρ : ρ0 = E s) (hI : I 0 s)
    (h : ∀ i s x, xs[i]? = some x → I i s → match step s x with
      | .inl s' => turn junk (E s) (enc x) body gm = some (.inl (E s')) ∧ I (i + 1) s'
      | .inr d => turn junk (E s) (enc x) body gm = some (.inr d)) :
    match foldR step xs s with
      | .inl s' => X = .nx (E s') ∧ I xs.length s'
      | .inr d => X = .rt d := by
  subst hX
  exact forD_runR enc E step I xs s hds hρ hI h
theorem wrun_of {σ : Type} {junk : List Nat} {p : TM} {body : SM} {n : Nat} {ρ : Env} {X : Out} (hX : whileD junk p body n ρ = X) (E : σ → Env) (cond : σ → Bool) (step : σ → σ) (meas : σ → Nat) (I : σ → Prop) (s : σ) (hρ : ρ = E s) (hI : I s) (hm : meas s < n)
    (hp : ∀ s, I s → p (E s) = .ok (cond s)) (hb : ∀ s, I s → cond s = true → (body (E s)).loop junk = some (.inl (E (step s))) ∧ I (step s) ∧ meas (step s) < meas s) :
    X = .nx (E (iterW cond step n s)) ∧ I (iterW cond step n s) ∧ cond (iterW cond step n s) = false := by
  subst hX hρ
  exact while_run E cond step meas I hp hb n s hI hm
theorem nats_inj {l m : List Nat} (h : nats l = nats m) : l = m := by
  unfold nats at h
  exact (List.map_inj_right fun a b e => by injection e with e; omega).mp h
theorem nats_cls : ∀ l : List Nat, D.cls (nats l) = true
  | [] => rfl
  | n :: l => by show (D.cl (.int n) && D.cls (nats l)) = true; rw [nats_cls l]; rfl
theorem nats_cl (l : List Nat) : D.cl (.lst (nats l)) = true := nats_cls l
theorem nats_sh1 (l : List Nat) : D.sh 1 (.lst (nats l)) = true := nats_sh 0 l
theorem nats_eq (l m : List Nat) : D.eq (.lst (nats l)) (.lst (nats m)) = some (.bl (decide (l = m))) := d_eq_cl (nats_cl l) (nats_cl m) (nats_sh1 l) (nats_sh1 m) (h := ⟨fun e => by injection e with e; exact nats_inj e, fun e => by rw [e]⟩)
theorem nats_ne (l m : List Nat) : D.ne (.lst (nats l)) (.lst (nats m)) = some (.bl (!decide (l = m))) := d_ne_cl (nats_cl l) (nats_cl m) (nats_sh1 l) (nats_sh1 m) (h := ⟨fun e => by injection e with e; exact nats_inj e, fun e => by rw [e]⟩)
def natss (ls : List (List Nat)) : List D := ls.map fun l => .lst (nats l)
theorem natss_sh2 (ls : List (List Nat)) : D.sh 2 (.lst (natss ls)) = true := by
  show (natss ls).all (D.sh 1) = true
  unfold natss
  rw [List.all_map, List.all_eq_true]
  exact fun l _ => nats_sh1 l
theorem natss_app (a b : List (List Nat)) : natss (a ++ b) = natss a ++ natss b := List.map_append
@[simp] theorem natss_len (l : List (List Nat)) : (natss l).length = l.length := List.length_map _
/-- the last one -/
def lastN (l : List Nat) : Nat := l.getD (l.length - 1) 0
theorem lastN_mem {l : List Nat} (h : l ≠ []) : lastN l ∈ l := getD_mem (by have := List.length_pos_iff.mpr h; omega)
theorem idx_last {l : List Nat} (h : l ≠ []) : D.idx (.lst (nats l)) (.int (-1)) = some (.int (lastN l)) := by
  have hp := List.length_pos_iff.mpr h
  show atI (nats l) (-1) = _
  unfold atI ixN
  rw [if_neg (by decide), if_pos (by rw [nats_len]; omega), nats_len]
  show (nats l)[((-1 : Int) + (l.length : Int)).toNat]? = _
  rw [show ((-1 : Int) + (l.length : Int)).toNat = l.length - 1 from by omega]
  refine nats_get ?_
  unfold lastN
  rw [List.getD_eq_getElem?_getD, List.getElem?_eq_getElem (by omega)]
  rfl
def minN (l : List Nat) : Nat := (minI (castL l)).toNat
theorem castL_ne {l : List Nat} (h : l ≠ []) : castL l ≠ [] := fun e => h (List.map_eq_nil_iff.mp e)
theorem minI_nn {l : List Nat} (h : l ≠ []) : 0 ≤ minI (castL l) := by
  obtain ⟨n, _, e⟩ := List.mem_map.mp (minI_ok (castL l) (castL_ne h)).1
  rw [← e]; exact Int.natCast_nonneg _
theorem min_nats {l : List Nat} (h : l ≠ []) : bMin [.lst (nats l)] = some (.int (minN l)) := by
  show (D.ints (nats l)).bind _ = _
  rw [ints_nats]
  show (if 0 < (castL l).length then _ else _) = _
  rw [if_pos (List.length_pos_iff.mpr (castL_ne h))]
  unfold minN
  rw [Int.toNat_of_nonneg (minI_nn h)]
theorem range_get' {n i x : Nat} (h : (List.range n)[i]? = some x) : i < n ∧ x = i := by
  have hi : i < n := by have := (List.getElem?_eq_some_iff.mp h).1; simpa using this
  rw [List.getElem?_range hi] at h
  cases h
  exact ⟨hi, rfl⟩
theorem enum_cells (f : Fl) : enumL 0 (f.cells.map Cell.enc) = (List.range f.size).map fun i : Nat => D.tup [.int i, (f.at i).enc] := by
  apply List.ext_getElem?
  intro i
  rw [enumL_get, List.getElem?_map, List.getElem?_map, Nat.zero_add]
  by_cases h : i < f.size
  · rw [Fl.get h, List.getElem?_range h]; rfl
  · rw [List.getElem?_eq_none (show f.cells.length ≤ i from by unfold Fl.size at h; omega), List.getElem?_eq_none (by simpa using h)]; rfl
/-- what is come to from c, sorted -/
def allFrom (G : Nat → List Nat) (c : Nat) : List Nat := sortN (iterW bfsCond (bfsStep G) 100000 ([c], 0)).1
def Fl.lostStep (f : Fl) (l : List Nat) (c : Nat) : List Nat := if f.at c ≠ .wall ∧ (allFrom f.goals c).filter (fun x => decide (f.at x = .fin)) = [] then l ++ [c] else l
def Fl.lost (f : Fl) : List Nat := (List.range f.size).foldl f.lostStep []
/-! a way on from a cell as long as there is one way, to a new cell -/
def ringCond (G : Nat → List Nat) (p : List Nat) : Bool := decide ((G (lastN p)).length = 1) && !decide ((G (lastN p)).getD 0 0 ∈ p)
def ringStep (G : Nat → List Nat) (p : List Nat) : List Nat := p ++ [(G (lastN p)).getD 0 0]
def ringPath (G : Nat → List Nat) (c : Nat) : List Nat := iterW (ringCond G) (ringStep G) 100000 [c]
structure RingOk (n : Nat) (p : List Nat) : Prop where
  nd : p.Nodup
  lt : ∀ x ∈ p, x < n
  ne : p ≠ []
theorem ring_step {G : Nat → List Nat} {n : Nat} (hG : ∀ a b, b ∈ G a → b < n) {p : List Nat} (h : RingOk n p) (hc : ringCond G p = true) : RingOk n (ringStep G p) := by
  obtain ⟨h1, h2⟩ := Bool.and_eq_true_iff.mp hc
  have h1 := of_decide_eq_true h1
  have h2 : (G (lastN p)).getD 0 0 ∉ p := by simpa using h2
  have hm : (G (lastN p)).getD 0 0 ∈ G (lastN p) := getD_mem (by omega)
  unfold ringStep
  refine ⟨List.nodup_append.mpr ⟨h.nd, by simp, fun a ha b hb e => ?_⟩, fun x hx => ?_, by simp⟩
  · rw [List.mem_singleton.mp hb] at e
    subst e
    exact h2 ha
  · rcases List.mem_append.mp hx with hx | hx
    · exact h.lt x hx
    · rw [List.mem_singleton.mp hx]; exact hG _ _ hm
def ringAdd (G : Nat → List Nat) (l : List (List Nat)) (c : Nat) : List (List Nat) := if G (lastN (ringPath G c)) = [c] ∧ c = minN (ringPath G c) then l ++ [ringPath G c] else l
def Fl.rings (f : Fl) : List (List Nat) := (List.range f.size).foldl (ringAdd f.goals) []
end L2.Pv

set_option Elab.async false
set_option linter.all false
set_option maxRecDepth 100000
set_option maxHeartbeats 4000000
set_option autoImplicit false
/-! Objects of the program's classes. -/
namespace L2.Pv
open PySem PySem.Spec PyProof.Rows

/-- a class of the program: these names are no names of it -/
def ClF (K : PySem.W.Frag) (mg : Str → Option Value) (c : Str) (fs : List Str) : Prop := ∃ C, mg c = some (Value.ref C) ∧ Cls K C ∧ ∀ f ∈ fs, NoAttr K C f
section
variable {X : Cx} {F0 H0 : Hp} {W : WX} {e o : Expr} {m ma mo : EM} {es : List Expr} {ms : List EM} {pos : Pos}
theorem DatF.look {K : KW} {mg : Str → Option Value} {F : Hp} {f : Str} {d : D} : ∀ {fv : List (Str × V)} {fs : List (Str × D)}, DatF K mg F fv fs → fs.lookup f = some d → ∃ v, fv.lookup f = some v ∧ Dat K mg F v d
  | _, _, .nil, h => by cases h
  | (k, v) :: fv, (_, d') :: fs, .cons q l, h => by
    rw [List.lookup_cons] at h ⊢
    cases e : (f == k) with
    | true => rw [e] at h; cases h; exact ⟨v, rfl, q⟩
    | false => rw [e] at h; exact l.look h
theorem DatF.lookN {K : KW} {mg : Str → Option Value} {F : Hp} {f : Str} : ∀ {fv : List (Str × V)} {fs : List (Str × D)}, DatF K mg F fv fs → fs.lookup f = none → fv.lookup f = none
  | _, _, .nil, _ => rfl
  | (k, v) :: fv, (_, d') :: fs, .cons q l, h => by
    rw [List.lookup_cons] at h ⊢
    cases e : (f == k) with
    | true => rw [e] at h; cases h
    | false => rw [e] at h; exact l.lookN h
def putFD (f : Str) (v : D) : List (Str × D) → List (Str × D)
  | [] => [(f, v)]
  | (g, x) :: r => if g = f then (g, v) :: r else (g, x) :: putFD f v r
theorem DatF.put {K : KW} {mg : Str → Option Value} {F : Hp} {f : Str} {v : V} {d : D} (h : Dat K mg F v d) : ∀ {fv : List (Str × V)} {fs : List (Str × D)}, DatF K mg F fv fs → DatF K mg F (putF f v fv) (putFD f d fs)
  | _, _, .nil => .cons h .nil
  | (k, x) :: fv, (_, y) :: fs, .cons q l => by
    unfold putF putFD
    by_cases e : k = f
    · rw [if_pos e, if_pos e]; exact .cons h l
    · rw [if_neg e, if_neg e]; exact .cons q (l.put h)
theorem DatF.len {K : KW} {mg : Str → Option Value} {F : Hp} : ∀ {fv : List (Str × V)} {fs : List (Str × D)}, DatF K mg F fv fs → fv.length = fs.length
  | _, _, .nil => rfl
  | _, _, .cons _ l => congrArg (· + 1) l.len
/-- o.f -/
def eFld (c f : Str) (ma : EM) : EM := fun ρ => (ma ρ).bind fun d => match d with
  | .obj c' fs => if c' = c then R.of (fs.lookup f) else .no
  | _ => .no
theorem em_fld {c f : Str} {fs : List Str} (h : ClF X.K X.mg c fs) (hf : f ∈ fs) (ha : PBm X F0 H0 W e ma) (hb : attributeBase e f X.env (eval e X.env) = eval e X.env) : PEm X F0 H0 W (.Attribute e f pos) (eFld c f ma) := by
  obtain ⟨C, hC, cl, na⟩ := h
  refine PE.imp (pe_fld ha hb) fun σ H Q ⟨F, ρ, r, g⟩ => ?_
  refine ⟨F, ρ, r, g.bind.imp fun d k F1 H1 v x1 q => ?_⟩
  cases d with
  | obj c' fl =>
    have k' : Got X.mg W F H σ (if c' = c then R.of (fl.lookup f) else .no) fun d => ∀ F' H' v, Ext F H F' H' → Dat X.kw X.mg F' v d → Q v H' := k
    split at k'
    · rename_i ec
      subst ec
      obtain ⟨d, e, k2⟩ := k'.of
      obtain ⟨a, C', dx, fv, rfl, hC', hH, l⟩ := q.obj x1.fh
      rw [hC] at hC'; cases hC'
      obtain ⟨w, hw, dw⟩ := l.look e
      exact ⟨a, _, dx, fv, w, rfl, hH, cl, na f hf, hw, k2 F1 H1 w x1 dw⟩
    · exact False.elim k'
  | _ => exact False.elim k
/-- x.f = e, x held alone -/
def sFldM (i : Nat) (c f : Str) (m : EM) : SM := fun ρ => (m ρ).out ρ fun v => match slAt ρ i with
  | some (.own (.obj c' fs)) => if c' = c ∧ fs.length < 1000 then .nx (ρ.set i (some (.own (.obj c' (putFD f v fs))))) else .no
  | _ => .no
theorem sm_fld (i : Nat) {x c f : Str} {fs : List Str} {p1 p2 p3 : Pos} (h : ClF X.K X.mg c fs) (hf : f ∈ fs) (he : PEm X F0 H0 W e m) (hN : X.N[i]? = some x := by rfl) (hv : Vis X.env.scope x := by first | exact Or.inl rfl | exact Or.inr (Or.inl rfl) | exact Or.inr (Or.inr rfl)) (hd : (x == ("__debug__" : Str)) = false := by decide) (hcd : (x == ("__classdict__" : Str)) = false := by decide)
    (hs : swapsWith e (some (.Attribute (.Name x p1) f p2)) p3.line X.env = pure false := by rfl) : PSm X F0 H0 W (.Assign [.Attribute (.Name x p1) f p2] e p3) (sFldM i c f m) := by
  obtain ⟨C, hC, cl, na⟩ := h
  refine PS.imp (ps_fld (pe_var hN hv hd hcd) he hs) fun D σ H ⟨F, ρ, r, g⟩ => ?_
  refine ⟨F, ρ, r, (OutOk.got r g).imp fun d k F1 H1 v x1 q => ?_⟩
  have k' : OutOk X.kw X.mg F0 H0 W D (match slAt ρ i with
    | some (.own (.obj c' fs)) => if c' = c ∧ fs.length < 1000 then .nx (ρ.set i (some (.own (.obj c' (putFD f d fs))))) else .no
    | _ => .no) := k
  split at k'
  · rename_i c' fl e0
    split at k'
    · rename_i ec
      obtain ⟨ec, hl⟩ := ec
      subst ec
      have r1 := r.ext x1
      have e1 := slAt_some e0
      obtain ⟨w, hσ, a, rfl, n, o⟩ := r1.sl i _ e1
      obtain ⟨C', dx, fv, hC', hH, l⟩ := o
      rw [hC] at hC'; cases hC'
      refine ⟨_, hσ, a, C, dx, fv, rfl, hH, cl, na f hf, by rw [l.len]; exact hl, k' F1 σ _ (r1.write e1 hσ ⟨C, dx, _, hC, upd_same, l.put q⟩)⟩
    · exact False.elim k'
  · exact False.elim k'
end

/-! ### __init__ -/
def startI (n : Nat) (c : Str) (ds : List D) : Env := some (.own (.obj c [])) :: startE (n - 1) ds
def runI (n : Nat) (c : Str) (m : SM) (ds : List D) : R D := match m (startI n c ds) with
  | .nx ρ => match slAt ρ 0 with
    | some (.own d) => .ok d
    | _ => .no
  | .rs x _ => .ex x
  | _ => .no
def rmH (H : Hp) (a : Addr) : Hp := fun b => if b = a then none else H b
section
variable (K : KW) (mg : Str → Option Value)
/-- what an __init__ promises: its object's fields -/
def spI (c : Str) (n : Nat) (f : List D → R D) : Sp := fun vs H Q E => ∃ F a as ds, vs = .ref a :: as ∧ Same F H ∧ F a = none ∧ OwnAt K mg F H a (.obj c []) ∧ DatL K mg F as ds ∧ ds.length = n ∧ match f ds with
  | .ok d => ∀ F' H', Ext F (rmH H a) F' H' → F' a = none → OwnAt K mg F' H' a d → Q .non H'
  | .ex x => ∀ F' H' C, Ext F (rmH H a) F' H' → mg x = some (Value.ref C) → E (.ref C) none H'
  | .no => False
end
section
variable {P : Program} {w : World} {K : KW} {mg : Str → Option Value} {base : Heap}
theorem rel_startI {c : Str} {F H : Hp} {x : Str} {N : List Str} {a : Addr} {vs : List V} {ds : List D} (fh : Same F H) (na : F a = none) (o : OwnAt K mg F H a (.obj c [])) (l : DatL K mg F vs ds) : Rel K mg F (rmH H a) F (start (x :: N) (.ref a :: vs)) H (startI (x :: N).length c ds) := by
  have r := rel_start (N := N) fh l
  have es : start (x :: N) (.ref a :: vs) = some (.ref a) :: start N vs := by
    unfold start
    rw [List.length_cons, List.length_cons, Nat.add_sub_add_right]; rfl
  have ee : startI (x :: N).length c ds = some (.own (.obj c [])) :: startE N.length ds := rfl
  rw [es, ee]
  have own : ∀ (i : Nat) (d : D), (startE N.length ds)[i]? = some (some (.own d)) → False := fun i d e => by
    obtain ⟨v, hv, k⟩ := r.sl i _ e
    have : ∃ d', (Sl.own d) = .val d' := by
      unfold startE at e
      by_cases hi : i < ds.length
      · rw [List.getElem?_append_left (by simpa using hi), List.getElem?_map, List.getElem?_eq_getElem hi] at e
        cases e
      · rw [List.getElem?_append_right (by simpa using hi), List.getElem?_replicate] at e
        split at e <;> cases e
    obtain ⟨_, z⟩ := this
    cases z
  refine ⟨fh, Same.refl F, fun b u e => ?_, fun b u e n => (by rw [n] at e; cases e), by rw [List.length_cons, List.length_cons, r.len], fun i s e => ?_, fun i d b e1 e2 => ?_, fun i j d d' b ne e1 e2 _ _ => ?_⟩
  · unfold rmH at e
    split at e
    · cases e
    · exact e
  · cases i with
    | zero => cases e; exact ⟨_, rfl, a, rfl, na, o⟩
    | succ i => exact r.sl i s e
  · cases i with
    | zero => cases e2; exact if_pos rfl
    | succ i => exact (own i d e1).elim
  · cases i with
    | zero => cases j with
      | zero => exact ne rfl
      | succ j => exact own j d' e2
    | succ i => exact own i d e1
/-! #### a body whose object, in slot 0, is known to stand at a -/
end
section
variable (K : KW) (mg : Str → Option Value) (F0 H0 : Hp) (W : WX) (a : Addr)
def OutOkZ (D : Ends) : Out → Prop
  | .nx ρ => ∀ F σ H, Rel K mg F0 H0 F σ H ρ → σ[0]? = some (some (.ref a)) → D.nx σ H
  | .rs c ρ => ∀ F σ H C, Rel K mg F0 H0 F σ H ρ → mg c = some (Value.ref C) → W (.ref C) none σ H
  | _ => False
def tSz (m : SM) : TS := fun D σ H => ∃ F ρ, Rel K mg F0 H0 F σ H ρ ∧ σ[0]? = some (some (.ref a)) ∧ OutOkZ K mg F0 H0 W a D (m ρ)
end
def PZm (X : Cx) (F0 H0 : Hp) (W : WX) (a : Addr) (st : Stmt) (m : SM) : Prop := PS X st (tSz X.kw X.mg F0 H0 W a m)
def PZsm (X : Cx) (F0 H0 : Hp) (W : WX) (a : Addr) (st : List Stmt) (m : SM) : Prop := PSs X st (tSz X.kw X.mg F0 H0 W a m)
section
variable {X : Cx} {F0 H0 : Hp} {W : WX} {a : Addr} {st : Stmt} {rest : List Stmt} {m n : SM} {e : Expr} {me : EM} {pos : Pos}
theorem OutOkZ.got {K : KW} {mg : Str → Option Value} {F H : Hp} {σ : St} {ρ : Env} {D : Ends} {α : Type} {r : R α} {k : α → Out} (rel : Rel K mg F0 H0 F σ H ρ) (h : OutOkZ K mg F0 H0 W a D (r.out ρ k)) : Got mg W F H σ r fun x => OutOkZ K mg F0 H0 W a D (k x) := by
  cases r with
  | ok x => exact h
  | ex c => exact fun F' H' C x e => h F' σ H' C (rel.ext x) e
  | no => exact h
theorem pz_nil : PZsm X F0 H0 W a [] (fun ρ => .nx ρ) := PSs.imp pss_nil fun D σ H ⟨F, ρ, r, hz, h⟩ => h F σ H r hz
theorem pz_cons (h1 : PZm X F0 H0 W a st m) (h2 : PZsm X F0 H0 W a rest n) : PZsm X F0 H0 W a (st :: rest) (sSeq m n) := by
  refine PSs.imp (pss_cons h1 h2) fun D σ H ⟨F, ρ, r, hz, h⟩ => ⟨F, ρ, r, hz, ?_⟩
  unfold sSeq at h
  cases q : m ρ with
  | nx ρ1 => rw [q] at h; exact fun F' σ' H' r' hz' => ⟨F', ρ1, r', hz', h⟩
  | rs c ρ1 => rw [q] at h; exact h
  | rt d => rw [q] at h; exact h
  | bk ρ1 => rw [q] at h; exact h
  | ct ρ1 => rw [q] at h; exact h
  | no => rw [q] at h; exact h
theorem pz_doc {x : Str} {j : Nat} {p2 : Pos} : PZm X F0 H0 W a (.Expr (.Constant (.str x) j p2) pos) (fun ρ => .nx ρ) := PS.imp ps_doc fun D σ H ⟨F, ρ, r, hz, h⟩ => h F σ H r hz
theorem pz_expr (he : PEm X F0 H0 W e me) (hs : swapsWith e none pos.line X.env = pure false := by rfl) : PZm X F0 H0 W a (.Expr e pos) (sExpr me) :=
  PS.imp (ps_expr he hs) fun D σ H ⟨F, ρ, r, hz, h⟩ => ⟨F, ρ, r, (OutOkZ.got r h).imp fun d k F' H' v x q => k F' σ H' (r.ext x) hz⟩
theorem pz_set {i : Nat} {x : Str} {p2 : Pos} (hN : X.N.Nodup) (hi : X.N[i]? = some x) (hx : Loc X.env.scope x) (he : PEm X F0 H0 W e me) (h0 : i ≠ 0) (hs : swapsWith e (some (.Name x p2)) pos.line X.env = pure false := by rfl) (hf : X.fn x = true ∨ X.env.scope.names.lookup x = some .local := by first | exact .inl rfl | exact .inr rfl | assumption) :
    PZm X F0 H0 W a (.Assign [.Name x p2] e pos) (sSet i me) :=
  PS.imp (ps_set hN hi hx he hs hf) fun D σ H ⟨F, ρ, r, hz, q⟩ => ⟨F, ρ, r, (OutOkZ.got r q).imp fun d k F' H' v x z => k F' _ H' ((r.ext x).put i z) (by rw [List.getElem?_set_ne h0]; exact hz)⟩
theorem pz_fld {x c f : Str} {fs : List Str} {p1 p2 p3 : Pos} (h : ClF X.K X.mg c fs) (hf : f ∈ fs) (he : PEm X F0 H0 W e me) (hN : X.N[0]? = some x := by rfl) (hv : Vis X.env.scope x := by first | exact Or.inl rfl | exact Or.inr (Or.inl rfl) | exact Or.inr (Or.inr rfl)) (hd : (x == ("__debug__" : Str)) = false := by decide) (hcd : (x == ("__classdict__" : Str)) = false := by decide)
    (hs : swapsWith e (some (.Attribute (.Name x p1) f p2)) p3.line X.env = pure false := by rfl) : PZm X F0 H0 W a (.Assign [.Attribute (.Name x p1) f p2] e p3) (sFldM 0 c f me) := by
  obtain ⟨C, hC, cl, na⟩ := h
  refine PS.imp (ps_fld (pe_var hN hv hd hcd) he hs) fun D σ H ⟨F, ρ, r, hz, g⟩ => ?_
  refine ⟨F, ρ, r, (OutOkZ.got r g).imp fun d k F1 H1 v x1 q => ?_⟩
  have k' : OutOkZ X.kw X.mg F0 H0 W a D (match slAt ρ 0 with
    | some (.own (.obj c' fs)) => if c' = c ∧ fs.length < 1000 then .nx (ρ.set 0 (some (.own (.obj c' (putFD f d fs))))) else .no
    | _ => .no) := k
  split at k'
  · rename_i c' fl e0
    split at k'
    · rename_i ec
      obtain ⟨ec, hl⟩ := ec
      subst ec
      have r1 := r.ext x1
      have e1 := slAt_some e0
      obtain ⟨w, hσ, b, rfl, n, o⟩ := r1.sl 0 _ e1
      obtain ⟨C', dx, fv, hC', hH, l⟩ := o
      rw [hC] at hC'; cases hC'
      refine ⟨_, hσ, b, C, dx, fv, rfl, hH, cl, na f hf, by rw [l.len]; exact hl, k' F1 σ _ (r1.write e1 hσ ⟨C, dx, _, hC, upd_same, l.put q⟩) hz⟩
    · exact False.elim k'
  · exact False.elim k'
end
section
variable {P : Program} {w : World} {K : PySem.W.Frag} {mg : Str → Option Value} {base : Heap}
theorem fn_initF {c x qual : Str} {params : Arguments} {body : List Stmt} {scope : Scope} {kws : List (Str × V)} {f : Addr} {fd : FuncData} {y : Str} {N ps : List Str} {n k : Nat} {m : SM} (F : FunD K x qual params body scope [] kws f fd) (S : FnScope (y :: N) ps scope) (hn : ps.length = n + 1)
    (h : ∀ (cdv : Value) (A : Around) (outer : List PySem.Env) (s : Shared) (H : Hp) (E : XK) (F0 H0 : Hp) (a : Addr), Room k (bodyX P w K mg base (y :: N) qual scope f cdv A outer s H E).A → Takes (bodyX P w K mg base (y :: N) qual scope f cdv A outer s H E) (fun cls d _ H => E cls d H) →
      PassesOwn (model P w) (bodyX P w K mg base (y :: N) qual scope f cdv A outer s H E).A (bodyX P w K mg base (y :: N) qual scope f cdv A outer s H E).env (bodyX P w K mg base (y :: N) qual scope f cdv A outer s H E).xe → PZsm (bodyX P w K mg base (y :: N) qual scope f cdv A outer s H E) F0 H0 (fun cls d _ H => E cls d H) a body m) :
    FnOk P w K mg base (L2.CX P w) (k + 1) f fd ps (spI ⟨K, w⟩ mg c n (runI (y :: N).length c m)) := by
  refine F.ok S (fun vs H Q E ⟨F, a, as, ds, ev, _, _, _, l, e, _⟩ => by rw [ev, List.length_cons, l.len, e, hn]) fun cdv A outer s H vs Q E hr ⟨F0, a, as, ds, ev, fh, na, o, l, e, q⟩ => ?_
  subst ev
  refine ⟨_, h cdv A outer s H E F0 (rmH H a) a hr (takes_of rfl rfl rfl rfl) (passes_of rfl), F0, startI (y :: N).length c ds, rel_startI fh na o l, by show (start (y :: N) (V.ref a :: as))[0]? = _; rfl, ?_⟩
  unfold runI at q
  cases z : m (startI (y :: N).length c ds) with
  | nx ρ =>
    rw [z] at q
    dsimp only at q
    intro F1 σ H1 r hz
    cases e0 : slAt ρ 0 with
    | none => rw [e0] at q; exact False.elim q
    | some sl =>
      rw [e0] at q
      cases sl with
      | val d => exact False.elim q
      | own d =>
        obtain ⟨v, hv, b, rfl, n, ob⟩ := r.sl 0 _ (slAt_some e0)
        rw [hz] at hv
        cases hv
        exact q F1 H1 r.toExt n ob
  | rs c ρ => rw [z] at q; exact fun F1 σ H1 C r e => q F1 H1 C r.toExt e
  | rt d => rw [z] at q; exact False.elim q
  | bk ρ => rw [z] at q; exact False.elim q
  | ct ρ => rw [z] at q; exact False.elim q
  | no => rw [z] at q; exact False.elim q
end

/-! ### making, methods -/
section
variable (K : PySem.W.Frag) (mg : Str → Option Value)
/-- the class c is made by a def that keeps the promise of f -/
def MkF (P : Program) (w : World) (base : Heap) (c : Str) (n k : Nat) (f : List D → R D) : Prop :=
  ∃ (C fa : Addr) (fd : FuncData) (ps : List Str), ps.length = n + 1 ∧ mg c = some (.ref C) ∧ Mk K C fa ∧ Binds K fd ps [] ∧ FnOk P w K mg base (L2.CX P w) k fa fd ps (spI ⟨K, w⟩ mg c n f)
/-- the class c has a method m that keeps the promise of f, the object its first argument -/
def MeF (P : Program) (w : World) (base : Heap) (c m : Str) (n k : Nat) (f : List D → R D) : Prop :=
  ∃ (C fa : Addr) (fd : FuncData) (ps : List Str), ps.length = n ∧ mg c = some (.ref C) ∧ Cls K C ∧ Meth K C m fa ∧ Binds K fd ps [] ∧ FnOk P w K mg base (L2.CX P w) k fa fd ps (spM ⟨K, w⟩ mg n f)
end
/-- nothing is let out -/
theorem pass_none {X : Cx} : Passes (L2.CX X.prog X.w) X (fun _ _ _ => False) := fun _ _ _ _ _ _ _ ⟨_, _, _, _, _, _, _, _, _, _, _, _, z⟩ => False.elim z
def eMake (f : List D → R D) (ms : List EM) : EM := fun ρ => (aAll ms ρ).bind fun ds => (f ds).nx
def eMeth (c m : Str) (f : List D → R D) (mo : EM) (ms : List EM) : EM := fun ρ => (mo ρ).bind fun d => match d with
  | .obj c' fs => if c' = c ∧ fs.lookup m = none then (aAll ms ρ).bind fun ds => (f (d :: ds)).nx else .no
  | _ => .no
section
variable {X : Cx} {F0 H0 : Hp} {W : WX} {e o : Expr} {mo : EM} {es : List Expr} {ms : List EM} {pos : Pos}
theorem fm_make {c : Str} {n j k : Nat} {f : List D → R D} {p : Pos} (G : MkF X.K X.mg X.prog X.w X.base c n j f) (hr : Room k X.A) (hj : j + 1 ≤ k) (hg : Gl X c) (ha : PAm X F0 H0 W (e :: es) ms) (hn : ms.length = n := by rfl) (hdb : (c == ("__debug__" : Str)) = false := by decide)
    (he : starEach (e :: es) X.env = (false, eval e X.env) :: starEach es X.env := by rfl) (hpl : (backTo pos (starEach es X.env)).any (·.1) = false := by rfl) : PFm X F0 H0 W (.Call (.Name c p) (e :: es) [] pos) (eMake f ms) := by
  obtain ⟨C, fa, fd, ps, hl, hm, M, hb, G⟩ := G
  refine PE.imp (pe_make (ds := []) (dvs := []) (E := fun _ _ _ => False) M G (hr.mono hj) hg hm hb .nil pass_none ha hdb he hpl) fun σ H Q ⟨F, ρ, r, g⟩ => ?_
  refine ⟨F, ρ, r, (aAll_got g.bind).imp fun ds ⟨k, hd⟩ F' H' vs x l y dx ny nd ne => ?_⟩
  have nfy : F' y = none := x.fh.free ny
  have nfd : F' dx = none := x.fh.free nd
  have ny2 : (upd H' dx (.own y)) y = none := by rw [upd_ne (Ne.symm ne)]; exact ny
  have s1 : Same H' (upd H' dx (.own y)) := same_upd nd
  have s2 : Same (upd H' dx (.own y)) (upd (upd H' dx (.own y)) y (.ins C dx [])) := same_upd ny2
  have fh2 : Same F' (upd (upd H' dx (.own y)) y (.ins C dx [])) := x.fh.trans (s1.trans s2)
  rw [List.append_nil]
  refine ⟨F', y, vs, ds, rfl, fh2, nfy, ⟨C, dx, [], hm, upd_same, .nil⟩, l, hd.trans hn, ?_⟩
  cases q : f ds with
  | ok d =>
    rw [q] at k
    intro F2 H2 x2 n2 o2
    refine ⟨rfl, ?_⟩
    have sm : Same H' H2 := fun b u hb => x2.hh b u (by
      unfold rmH
      have hby : b ≠ y := ne_of_none hb ny
      rw [if_neg hby, upd_ne hby]
      exact s1 b u hb)
    have x3 : Ext F' H' F2 H2 := ⟨x2.ff, x2.fh, sm, fun b u e n => by
      rcases x2.nw b u e n with z | z
      · left
        by_cases hby : b = y
        · rw [hby]; exact ny
        · unfold rmH at z
          rw [if_neg hby, upd_ne hby] at z
          by_cases hbd : b = dx
          · rw [hbd]; exact nd
          · rw [upd_ne hbd] at z; exact z
      · exact .inr z⟩
    exact k F2 H2 y (x.trans x3) n2 (x.hh.free ny) o2
  | ex c => rw [q] at k; exact False.elim k
  | no => rw [q] at k; exact False.elim k
theorem em_meth {c m : Str} {n j k : Nat} {f : List D → R D} {apos : Pos} {pl : Sem Bool} (G : MeF X.K X.mg X.prog X.w X.base c m n j f) (hr : Room k X.A) (hj : j ≤ k) (ho : PEm X F0 H0 W o mo) (ha : PAm X F0 H0 W (e :: es) ms) (hn : ms.length + 1 = n := by rfl)
    (hst : starEach (e :: es) X.env = (false, eval e X.env) :: starEach es X.env := by rfl) (hpl : (backTo pos (starEach es X.env)).any (·.1) = false := by rfl)
    (ht : eval (.Call (.Attribute o m apos) (e :: es) [] pos) X.env = (do
      let ov ← eval o X.env
      standAt apos.atName
      let (f, first) ← holding [ov] (getMethod ov m pl)
      callWith pos f first (backTo pos (starEach (e :: es) X.env)) (backToKw pos (keywordEach [] X.env))) := by rfl) : PEm X F0 H0 W (.Call (.Attribute o m apos) (e :: es) [] pos) (eMeth c m f mo ms) := by
  obtain ⟨C, fa, fd, ps, hl, hm, cl, M, hb, G⟩ := G
  refine PE.imp (pe_meth (ds := []) (dvs := []) (E := fun _ _ _ => False) ho cl M G (hr.mono hj) hb .nil pass_none ha hst hpl ht) fun σ H Q ⟨F, ρ, r, g⟩ => ?_
  refine ⟨F, ρ, r, g.bind.imp fun d k F1 H1 v x1 dv => ?_⟩
  cases dv with
  | @obj a C' dx c' fv fs hC hF l =>
    have k' : Got X.mg W F H σ (if c' = c ∧ fs.lookup m = none then (aAll ms ρ).bind fun ds => (f (.obj c' fs :: ds)).nx else .no) fun d => ∀ F' H' v, Ext F H F' H' → Dat X.kw X.mg F' v d → Q v H' := k
    split at k'
    · rename_i ec
      obtain ⟨ec, en⟩ := ec
      subst ec
      rw [hm] at hC; cases hC
      refine ⟨a, dx, fv, rfl, x1.fh _ _ hF, l.lookN en, F1, ρ, r.ext x1, (aAll_got ((k'.move x1).bind)).imp fun ds ⟨k2, hd⟩ F2 H2 vs x2 l2 => ?_⟩
      dsimp only
      rw [List.append_nil]
      refine ⟨F2, .obj c' fs :: ds, x2.fh, .cons (.obj hm (x2.ff _ _ hF) (l.mono x2.ff)) l2, by rw [List.length_cons, hd]; exact hn, ?_⟩
      cases q : f (.obj c' fs :: ds) with
      | ok d => rw [q] at k2; exact fun F3 H3 v x3 z => k2 F3 H3 v (x1.trans (x2.trans x3)) z
      | ex c => rw [q] at k2; exact False.elim k2
      | no => rw [q] at k2; exact False.elim k2
    · exact False.elim k'
  | _ => exact False.elim k
end
section
variable {P : Program} {w : World} {K : PySem.W.Frag} {mg : Str → Option Value} {base : Heap}
/-- THE RULE for a method -/
theorem me_mk {c x qual : Str} {params : Arguments} {body : List Stmt} {scope : Scope} {kws : List (Str × V)} {fd : FuncData} {N ps : List Str} {n k : Nat} {m : SM} (F : FunD K x qual params body scope [] kws (He.fAd K (c, some x)) fd) (hm : mg c = some (.ref (He.ga K c))) (cl : Cls K (He.ga K c)) (me : Meth K (He.ga K c) x (He.ma K (He.ga K c) x)) (S : FnScope N ps scope) (hn : ps.length = n)
    (hb : ∀ (kV doc pm : Value) (an : Option Addr) (cdv ct : Value) (us : List Value), us.length = ps.length → bindArgs (PySem.W.fnOf x qual params body scope .none kV doc pm an cdv ct) ⟨us, []⟩ = pure (ps.zip us))
    (h : ∀ (cdv : Value) (A : Around) (outer : List PySem.Env) (s : Shared) (H : Hp) (E : XK) (F0 : Hp), Room k (bodyX P w K mg base N qual scope (He.fAd K (c, some x)) cdv A outer s H E).A → Takes (bodyX P w K mg base N qual scope (He.fAd K (c, some x)) cdv A outer s H E) (fun cls d _ H => E cls d H) →
      PassesOwn (model P w) (bodyX P w K mg base N qual scope (He.fAd K (c, some x)) cdv A outer s H E).A (bodyX P w K mg base N qual scope (He.fAd K (c, some x)) cdv A outer s H E).env (bodyX P w K mg base N qual scope (He.fAd K (c, some x)) cdv A outer s H E).xe → PSsm (bodyX P w K mg base N qual scope (He.fAd K (c, some x)) cdv A outer s H E) F0 H (fun cls d _ H => E cls d H) body m) :
    MeF K mg P w base c x n (k + 1) (runM N.length m) := ⟨_, _, fd, ps, hn, hm, cl, me, F.bindsN hb, fn_okF F S hn h⟩
/-- THE RULE for an __init__ -/
theorem mk_mk {c qual : Str} {params : Arguments} {body : List Stmt} {scope : Scope} {kws : List (Str × V)} {fd : FuncData} {y : Str} {N ps : List Str} {n k : Nat} {m : SM} (F : FunD K "__init__" qual params body scope [] kws (He.fAd K (c, some "__init__")) fd) (hm : mg c = some (.ref (He.ga K c))) (M : Mk K (He.ga K c) (He.ma K (He.ga K c) "__init__")) (S : FnScope (y :: N) ps scope) (hn : ps.length = n + 1)
    (hb : ∀ (kV doc pm : Value) (an : Option Addr) (cdv ct : Value) (us : List Value), us.length = ps.length → bindArgs (PySem.W.fnOf "__init__" qual params body scope .none kV doc pm an cdv ct) ⟨us, []⟩ = pure (ps.zip us))
    (h : ∀ (cdv : Value) (A : Around) (outer : List PySem.Env) (s : Shared) (H : Hp) (E : XK) (F0 H0 : Hp) (a : Addr), Room k (bodyX P w K mg base (y :: N) qual scope (He.fAd K (c, some "__init__")) cdv A outer s H E).A → Takes (bodyX P w K mg base (y :: N) qual scope (He.fAd K (c, some "__init__")) cdv A outer s H E) (fun cls d _ H => E cls d H) →
      PassesOwn (model P w) (bodyX P w K mg base (y :: N) qual scope (He.fAd K (c, some "__init__")) cdv A outer s H E).A (bodyX P w K mg base (y :: N) qual scope (He.fAd K (c, some "__init__")) cdv A outer s H E).env (bodyX P w K mg base (y :: N) qual scope (He.fAd K (c, some "__init__")) cdv A outer s H E).xe → PZsm (bodyX P w K mg base (y :: N) qual scope (He.fAd K (c, some "__init__")) cdv A outer s H E) F0 H0 (fun cls d _ H => E cls d H) a body m) :
    MkF K mg P w base c n (k + 1) (runI (y :: N).length c m) := ⟨_, _, fd, ps, hn, hm, M, F.bindsN hb, fn_initF F S hn h⟩
end
theorem pss_never {X : Cx} {F0 H0 : Hp} {W : WX} {sts : List Stmt} : PSsm X F0 H0 W sts sNo := ⟨fun pins s σ H D I ⟨F, ρ, r, g⟩ => False.elim g⟩
def clsBody : Stmt → List Stmt
  | .ClassDef (body := b) .. => b
  | _ => []
end L2.Pv

set_option maxRecDepth 100000
set_option maxHeartbeats 4000000
set_option linter.all false
set_option Elab.async false
set_option autoImplicit false
namespace L2.Pv.Lw
open PySem PySem.Spec PyProof.Rows
def top (i : Nat) : Stmt := PySem.Challenge.pw_beltturns_k16_other_floors.main.body.getD i (.Pass ⟨0, 0, 0, 0⟩)
def excs : List Str := ["BadCell", "BadCount", "BadFloor", "BadKinds", "BadState", "BadText", "Nothing", "TooLong"]
def subX (c h : Str) : Bool := decide (c = h) || decide (h = "BeltError")
abbrev s__law_cell : Stmt := top 60
def d__law_cell : He.DefD := ⟨("_law_cell", none), "_law_cell", "_law_cell", defArgs s__law_cell, defBody s__law_cell, defScope s__law_cell, [], []⟩
abbrev s__law_seed : Stmt := top 61
def d__law_seed : He.DefD := ⟨("_law_seed", none), "_law_seed", "_law_seed", defArgs s__law_seed, defBody s__law_seed, defScope s__law_seed, [], []⟩
abbrev s__law_pick : Stmt := top 62
def d__law_pick : He.DefD := ⟨("_law_pick", none), "_law_pick", "_law_pick", defArgs s__law_pick, defBody s__law_pick, defScope s__law_pick, [], []⟩
abbrev s__law_cell_of : Stmt := top 63
def d__law_cell_of : He.DefD := ⟨("_law_cell_of", none), "_law_cell_of", "_law_cell_of", defArgs s__law_cell_of, defBody s__law_cell_of, defScope s__law_cell_of, [], []⟩
abbrev s__law_floor : Stmt := top 64
def d__law_floor : He.DefD := ⟨("_law_floor", none), "_law_floor", "_law_floor", defArgs s__law_floor, defBody s__law_floor, defScope s__law_floor, [], []⟩
abbrev s_is_within : Stmt := top 16
def d_is_within : He.DefD := ⟨("is_within", none), "is_within", "is_within", defArgs s_is_within, defBody s_is_within, defScope s_is_within, [], []⟩
abbrev s_is_side : Stmt := top 17
def d_is_side : He.DefD := ⟨("is_side", none), "is_side", "is_side", defArgs s_is_side, defBody s_is_side, defScope s_is_side, [], []⟩
abbrev s_is_kind : Stmt := top 18
def d_is_kind : He.DefD := ⟨("is_kind", none), "is_kind", "is_kind", defArgs s_is_kind, defBody s_is_kind, defScope s_is_kind, [], []⟩
abbrev s_is_cell : Stmt := top 19
def d_is_cell : He.DefD := ⟨("is_cell", none), "is_cell", "is_cell", defArgs s_is_cell, defBody s_is_cell, defScope s_is_cell, [], []⟩
abbrev s_is_floor : Stmt := top 20
def d_is_floor : He.DefD := ⟨("is_floor", none), "is_floor", "is_floor", defArgs s_is_floor, defBody s_is_floor, defScope s_is_floor, [], []⟩
abbrev s_look : Stmt := top 21
def d_look : He.DefD := ⟨("look", none), "look", "look", defArgs s_look, defBody s_look, defScope s_look, [], []⟩
abbrev s_led : Stmt := top 31
def d_led : He.DefD := ⟨("led", none), "led", "led", defArgs s_led, defBody s_led, defScope s_led, [], []⟩
abbrev s_mirrored : Stmt := top 32
def d_mirrored : He.DefD := ⟨("mirrored", none), "mirrored", "mirrored", defArgs s_mirrored, defBody s_mirrored, defScope s_mirrored, [], []⟩
abbrev s__law_led : Stmt := top 65
def d__law_led : He.DefD := ⟨("_law_led", none), "_law_led", "_law_led", defArgs s__law_led, defBody s__law_led, defScope s__law_led, [], []⟩
abbrev s__law_mirrored : Stmt := top 66
def d__law_mirrored : He.DefD := ⟨("_law_mirrored", none), "_law_mirrored", "_law_mirrored", defArgs s__law_mirrored, defBody s__law_mirrored, defScope s__law_mirrored, [], []⟩
abbrev s_turned : Stmt := top 33
def d_turned : He.DefD := ⟨("turned", none), "turned", "turned", defArgs s_turned, defBody s_turned, defScope s_turned, [], []⟩
abbrev s_beside_one : Stmt := top 34
def d_beside_one : He.DefD := ⟨("beside_one", none), "beside_one", "beside_one", defArgs s_beside_one, defBody s_beside_one, defScope s_beside_one, [], []⟩
abbrev s_look_cell : Stmt := top 27
def d_look_cell : He.DefD := ⟨("look_cell", none), "look_cell", "look_cell", defArgs s_look_cell, defBody s_look_cell, defScope s_look_cell, [], []⟩
abbrev s_put_cell : Stmt := top 35
def d_put_cell : He.DefD := ⟨("put_cell", none), "put_cell", "put_cell", defArgs s_put_cell, defBody s_put_cell, defScope s_put_cell, [], []⟩
abbrev s_with_kinds : Stmt := top 36
def d_with_kinds : He.DefD := ⟨("with_kinds", none), "with_kinds", "with_kinds", defArgs s_with_kinds, defBody s_with_kinds, defScope s_with_kinds, [], []⟩
abbrev s__law_called : Stmt := top 69
def d__law_called : He.DefD := ⟨("_law_called", none), "_law_called", "_law_called", defArgs s__law_called, defBody s__law_called, defScope s__law_called, [], []⟩
abbrev s__law_called_then : Stmt := top 70
def d__law_called_then : He.DefD := ⟨("_law_called_then", none), "_law_called_then", "_law_called_then", defArgs s__law_called_then, defBody s__law_called_then, defScope s__law_called_then, [], []⟩
abbrev s__law_caught : Stmt := top 71
def d__law_caught : He.DefD := ⟨("_law_caught", none), "_law_caught", "_law_caught", defArgs s__law_caught, defBody s__law_caught, defScope s__law_caught, [], []⟩
abbrev s__law_turned : Stmt := top 67
def d__law_turned : He.DefD := ⟨("_law_turned", none), "_law_turned", "_law_turned", defArgs s__law_turned, defBody s__law_turned, defScope s__law_turned, [], []⟩
abbrev s__law_other_cell : Stmt := top 68
def d__law_other_cell : He.DefD := ⟨("_law_other_cell", none), "_law_other_cell", "_law_other_cell", defArgs s__law_other_cell, defBody s__law_other_cell, defScope s__law_other_cell, [], []⟩
abbrev s_law : Stmt := top 72
def d_law : He.DefD := ⟨("law", none), "law", "law", defArgs s_law, defBody s_law, defScope s_law, [], []⟩
def hkd : HkD := ⟨6, [.glo "_law_cell", .glo "_law_seed", .glo "_law_pick", .glo "_law_cell_of", .glo "_law_floor", .glo "is_within", .glo "is_side", .glo "is_kind", .glo "is_cell", .glo "is_floor", .glo "look", .glo "led", .glo "mirrored", .glo "_law_led", .glo "_law_mirrored", .glo "turned", .glo "beside_one", .glo "look_cell", .glo "put_cell", .glo "with_kinds", .glo "_law_called", .glo "_law_called_then", .glo "_law_caught", .glo "_law_turned", .glo "_law_other_cell", .glo "law", .free "bool", .free "dict", .free "int", .free "isinstance", .free "len", .free "range", .free "sorted", .free "str", .free "tuple", .free "zip", .int "MOST_HIGH" 5, .int "MOST_WAIT" 5, .int "MOST_WIDE" 6, .glo "SIDES", .glo "MIRROR", .glo "RIGHT"] ++ excFa excs subX, [d__law_cell, d__law_seed, d__law_pick, d__law_cell_of, d__law_floor, d_is_within, d_is_side, d_is_kind, d_is_cell, d_is_floor, d_look, d_led, d_mirrored, d__law_led, d__law_mirrored, d_turned, d_beside_one, d_look_cell, d_put_cell, d_with_kinds, d__law_called, d__law_called_then, d__law_caught, d__law_turned, d__law_other_cell, d_law], [(fun K => He.ga K "MIRROR", ["n", "e", "s", "w"]), (fun K => He.ga K "RIGHT", ["n", "e", "s", "w"])], [("SIDES", [.str "n", .str "e", .str "s", .str "w"])], [(fun K => He.ga K "MIRROR", [("n", .str "n"), ("e", .str "w"), ("s", .str "s"), ("w", .str "e")]), (fun K => He.ga K "RIGHT", [("n", .str "e"), ("e", .str "s"), ("s", .str "w"), ("w", .str "n")])]⟩
abbrev Rw : PySem.W.OpenRow := PySem.W.OpenLaw.row PySem.Challenge.rw_beltturns_k16_other_floors
abbrev hk : PySem.W.Hook := hkd.hook
def ob (s : PySem.W.SharedT) : He.AlT × Bool := hkd.obsG (HandSHeadRun.getT s)
theorem ob_eq (s : PySem.W.SharedT) : ob s = hk.obs s.abs := hkd.obsG_eq (HandSHeadRun.getT_eq s)
abbrev others : List Str := (["_wall", "BeltError", "BadFloor", "BadState", "BadCount", "BadCell", "BadText", "TooLong", "Nothing", "BadKinds", "SIDES", "MOST_WIDE", "MOST_HIGH", "MOST_WAIT", "is_within", "is_side", "is_kind", "is_cell", "is_floor", "look", "beside", "outs", "goals", "comers", "look_cell", "MIRROR", "RIGHT", "led", "mirrored", "turned"] : List Str) ++ (["beside_one", "put_cell", "with_kinds", "FREE", "first_state", "is_turn", "is_state", "look_state", "Net", "MOST_STEPS", "look_thing", "thing_path", "end_of", "first_on", "left_by", "MOST_GO", "Meter", "counted", "FIGURES", "state_text", "read_state", "_law_cell", "_law_seed", "_law_pick", "_law_cell_of", "_law_floor", "_law_led", "_law_mirrored", "_law_turned", "_law_other_cell"] : List Str) ++ (["_law_called", "_law_called_then", "_law_caught"] : List Str)
theorem run_f (w : World) : HandSHeadRun.RunEq Rw (PySem.W.view Rw.prog [72]) hk ob 12000 others (w.withFollow "special-get-raises" false) := by intro os; kernel_rfl
theorem run_t (w : World) : HandSHeadRun.RunEq Rw (PySem.W.view Rw.prog [72]) hk ob 12000 others (w.withFollow "special-get-raises" true) := by intro os; kernel_rfl
theorem run (w : World) : HandSHeadRun.RunEq Rw (PySem.W.view Rw.prog [72]) hk ob 12000 others w := PySem.W.byRow2 "special-get-raises" (P := fun w => HandSHeadRun.RunEq Rw (PySem.W.view Rw.prog [72]) hk ob 12000 others w) run_f run_t w
end L2.Pv.Lw

set_option Elab.async false
set_option linter.all false
set_option maxRecDepth 100000
set_option maxHeartbeats 4000000
set_option autoImplicit false
/-! Sorted lists of alike data; more statements. -/
namespace L2.Pv
open PySem PySem.Spec PyProof.Rows
open PySem.W (alike dataLe EachIs AllAlike Sortable sorted_data)

/-! ### sorted -/
def sortOk (ds : List D) : Bool := (ds.all fun x => ds.all fun y => alike x.py y.py) && ((ds.all fun d => match d with
  | .tup (_ :: _) => true
  | _ => false) || ds.all fun d => match d with
  | .int _ => true
  | .str _ => true
  | _ => false) && ds.all (D.sh 60)
def sortD (ds : List D) : List D := ds.mergeSort (dataLe false D.py)
def bSortD : List D → Option D
  | [.lst ds] => if sortOk ds && decide (ds.length ≤ lim) then some (.lst (sortD ds)) else none
  | _ => none
section
variable {X : Cx}
theorem each_dat {K : KW} {mg : Str → Option Value} {F : Hp} : ∀ {out : List Value} {ds : List D}, EachIs (fun u d => ∃ v, RelV v u ∧ Dat K mg F v d) out ds → ∃ vs, Vals vs out ∧ DatL K mg F vs ds
  | _, _, .nil => ⟨[], .nil, .nil⟩
  | _, _, .cons ⟨v, r, q⟩ h => by
    obtain ⟨vs, r2, q2⟩ := each_dat h
    exact ⟨v :: vs, .cons r r2, .cons q q2⟩
theorem dat_each {K : KW} {mg : Str → Option Value} {F : Hp} : ∀ {vs : List V} {us : List Value} {ds : List D}, Vals vs us → DatL K mg F vs ds → EachIs (fun u d => ∃ v, RelV v u ∧ Dat K mg F v d) us ds
  | _, _, _, .nil, .nil => .nil
  | _, _, _, .cons r rs, .cons q qs => .cons ⟨_, r, q⟩ (dat_each rs qs)
theorem cm_sortD (hc : X.calm = true) (hu : X.A.units + 65 < cLine) : CallM X (.builtin "sorted") bSortD := by
  rintro pins s σ H xs us Q I r ⟨F, ds, d, fh, l, e, k⟩
  unfold bSortD at e
  split at e
  · rename_i ds
    split at e
    · rename_i hok
      cases e
      obtain ⟨hok, hlim⟩ := Bool.and_eq_true_iff.mp hok
      obtain ⟨hok, hsh⟩ := Bool.and_eq_true_iff.mp hok
      obtain ⟨hal, hso⟩ := Bool.and_eq_true_iff.mp hok
      have hlim := of_decide_eq_true hlim
      obtain ⟨v, rfl, hx⟩ := l.one
      obtain ⟨u, rfl, ru⟩ := vals1 r
      obtain ⟨a, vs, rfl, h1, l1⟩ := hx.lst fh
      cases ru
      obtain ⟨its, rv, p, hz⟩ := I.list (SqL.of h1)
      have e1 := dat_each rv l1
      have dp : ∀ d ∈ ds, d.py.canLay0 = true ∧ d.py.depth ≤ 60 := fun d hd => sh_py 60 d (List.all_eq_true.mp hsh d hd)
      have er : EachIs (fun u d => ∃ as, Reads s.heap u d.py as) its ds := by
        have go : ∀ {us : List Value} {vs : List V} {ds : List D}, Vals vs us → DatL X.kw X.mg F vs ds → (∀ d ∈ ds, d.py.canLay0 = true) → EachIs (fun u d => ∃ as, Reads s.heap u d.py as) us ds := by
          intro us vs ds r
          induction r generalizing ds with
          | nil => intro q _; cases q; exact .nil
          | cons r rs ih =>
            intro q hq
            cases q with
            | cons q qs =>
              exact .cons (Dp.reads I _ _ _ ((q.mono fh).dp (hq _ List.mem_cons_self)) r) (ih qs fun d hd => hq d (List.mem_cons_of_mem _ hd))
        exact go rv l1 fun d hd => (dp d hd).1
      have al : PySem.W.AllAlike (ds.map D.py) := fun x hx y hy => by
        obtain ⟨x', hx', rfl⟩ := List.mem_map.mp hx
        obtain ⟨y', hy', rfl⟩ := List.mem_map.mp hy
        exact List.all_eq_true.mp (List.all_eq_true.mp hal x' hx') y' hy'
      have so : PySem.W.Sortable (ds.map D.py) := by
        rcases Bool.or_eq_true_iff.mp hso with h | h
        · left
          intro x hx
          obtain ⟨d, hd, rfl⟩ := List.mem_map.mp hx
          have := List.all_eq_true.mp h d hd
          split at this
          · exact ⟨_, _, rfl⟩
          · cases this
        · right
          intro x hx
          obtain ⟨d, hd, rfl⟩ := List.mem_map.mp hx
          have := List.all_eq_true.mp h d hd
          split at this
          · exact ⟨fun z => (nomatch z), fun _ z => (nomatch z)⟩
          · exact ⟨fun z => (nomatch z), fun _ z => (nomatch z)⟩
          · cases this
      refine PySem.W.sorted_data (bs := ds) (enc := D.py) p.isList e1 er al so (lim_line hlim) (fun d hd => by have := (dp d hd).2; omega) fun out ho eo => ?_
      obtain ⟨ys, ry, dy⟩ := each_dat eo
      obtain ⟨c, hc⟩ := sortedAll_at s.heap its out.toArray
      have hn : H (s.heap.objs.size + 1) = none := I.hok.fresh (Nat.le_succ _)
      have hly : ys.length = ds.length := by rw [ry.length, ho]
      exact ⟨.ref (s.heap.objs.size + 1), upd H (s.heap.objs.size + 1) (.lst ys), I.laid (t' := s.toks) (fun _ _ => sortedAll_old) (Nat.le_succ _) ⟨by rw [hly]; exact lim_line hlim, out, c, ry, hc⟩, rfl, lst_new fh dy k _ hn⟩
    · cases e
  · cases e
end

/-! ### a, b(, c) = e1, e2(, e3): lists and dicts made there are held alone -/
/-- an item: data (false), or what is made there (true) -/
structure Itm where
  own : Bool
  m : EM
def Itm.sl (k : Itm) (d : D) : Sl := if k.own then .own d else .val d
def PKm (X : Cx) (F0 H0 : Hp) (W : WX) (e : Expr) (k : Itm) : Prop := if k.own then PFm X F0 H0 W e k.m else PEm X F0 H0 W e k.m
def kAll : List Itm → Env → R (List D)
  | [], _ => .ok []
  | k :: ks, ρ => (k.m ρ).bind fun d => (kAll ks ρ).bind fun ds => .ok (d :: ds)
section
variable (K : KW) (mg : Str → Option Value)
/-- the items as they stand: those held alone at addresses that are nowhere else -/
inductive MixOk (H0 F H : Hp) : List Itm → List V → List D → Prop
  | nil : MixOk H0 F H [] [] []
  | val {k : Itm} {ks : List Itm} {v : V} {vs : List V} {d : D} {ds : List D} : k.own = false → Dat K mg F v d → MixOk H0 F H ks vs ds → MixOk H0 F H (k :: ks) (v :: vs) (d :: ds)
  | own {k : Itm} {ks : List Itm} {a : Addr} {vs : List V} {d : D} {ds : List D} : k.own = true → F a = none → H0 a = none → OwnAt K mg F H a d → (∀ (j : Nat) (b : Addr), ks[j]?.map Itm.own = some true → vs[j]? = some (V.ref b) → b ≠ a) → MixOk H0 F H ks vs ds → MixOk H0 F H (k :: ks) (.ref a :: vs) (d :: ds)
def tKm (F0 H0 : Hp) (W : WX) (ks : List Itm) : TA := fun σ H Q => ∃ F ρ, Rel K mg F0 H0 F σ H ρ ∧ Got mg W F H σ (kAll ks ρ) fun ds => ∀ F' H' vs, Ext F H F' H' → MixOk K mg H F' H' ks vs ds → Q vs H'
end
section
variable {X : Cx} {F0 H0 : Hp} {W : WX} {a b c e : Expr} {es : List Expr} {k : Itm} {ks : List Itm} {pos : Pos}
theorem MixOk.weaken {K : KW} {mg : Str → Option Value} {H1 H2 F H : Hp} (s : Same H1 H2) : ∀ {ks : List Itm} {vs : List V} {ds : List D}, MixOk K mg H2 F H ks vs ds → MixOk K mg H1 F H ks vs ds
  | _, _, _, .nil => .nil
  | _, _, _, .val h1 h2 h3 => .val h1 h2 (h3.weaken s)
  | _, _, _, .own h1 h2 h3 h4 h5 h6 => .own h1 h2 (s.free h3) h4 h5 (h6.weaken s)
theorem MixOk.fresh {K : KW} {mg : Str → Option Value} {H1 F H : Hp} : ∀ {ks : List Itm} {vs : List V} {ds : List D}, MixOk K mg H1 F H ks vs ds → ∀ (j : Nat) (b : Addr), ks[j]?.map Itm.own = some true → vs[j]? = some (V.ref b) → H1 b = none
  | _, _, _, .nil, j, _, h, _ => by cases h
  | _, _, _, .val h1 _ h3, 0, _, h, _ => by
    rw [show ((_ : List Itm)[0]?.map Itm.own) = some _ from rfl, h1] at h; cases h
  | _, _, _, .val _ _ h3, j + 1, b, h, e => h3.fresh j b h e
  | _, _, _, .own _ _ h3 _ _ _, 0, _, _, e => by cases e; exact h3
  | _, _, _, .own _ _ _ _ _ h6, j + 1, b, h, e => h6.fresh j b h e
theorem km_nil : PA X [] (tKm X.kw X.mg F0 H0 W []) := by
  refine PA.imp (pa_nil (X := X)) fun σ H Q ⟨F, ρ, r, g⟩ => ?_
  exact g F H [] (Ext.refl r.fh) .nil
theorem km_cons (he : PKm X F0 H0 W e k) (ht : PA X es (tKm X.kw X.mg F0 H0 W ks)) (hs : starEach (e :: es) X.env = (false, eval e X.env) :: starEach es X.env := by rfl) : PA X (e :: es) (tKm X.kw X.mg F0 H0 W (k :: ks)) := by
  unfold PKm at he
  cases hk : k.own with
  | false =>
    rw [hk, if_neg Bool.false_ne_true] at he
    refine PA.imp (pa_cons he ht hs) fun σ H Q ⟨F, ρ, r, g⟩ => ?_
    refine ⟨F, ρ, r, g.bind.imp fun d g2 F1 H1 v x1 q => ?_⟩
    refine ⟨F1, ρ, r.ext x1, (g2.move x1).bind.imp fun ds g3 F2 H2 vs x2 l => ?_⟩
    exact g3 F2 H2 (v :: vs) (x1.trans x2) (.val hk (q.mono x2.ff) (l.weaken x1.hh))
  | true =>
    rw [hk, if_pos rfl] at he
    refine PA.imp (pa_cons he ht hs) fun σ H Q ⟨F, ρ, r, g⟩ => ?_
    refine ⟨F, ρ, r, g.bind.imp fun d g2 F1 H1 a x1 n n0 o => ?_⟩
    refine ⟨F1, ρ, r.ext x1, (g2.move x1).bind.imp fun ds g3 F2 H2 vs x2 l => ?_⟩
    obtain ⟨u, hu, mu⟩ := o.some
    refine g3 F2 H2 (.ref a :: vs) (x1.trans x2) (.own hk (x2.own n hu mu) n0 (o.mono x2.ff ((x2.hh a u hu).trans hu.symm)) (fun j b hj hb e => ?_) (l.weaken x1.hh))
    have := l.fresh j b hj hb
    rw [e, hu] at this
    cases this
end

def setK (ρ : Env) : List Nat → List Itm → List D → Env
  | i :: is, k :: ks, d :: ds => setK (ρ.set i (some (k.sl d))) is ks ds
  | _, _, _ => ρ
def setV (σ : St) : List Nat → List V → St
  | i :: is, v :: vs => setV (σ.set i (some v)) is vs
  | _, _ => σ
theorem Rel.putK {K : KW} {mg : Str → Option Value} {F0 H0 Hs F H : Hp} (h0 : Same H0 Hs) : ∀ {is : List Nat} {ks : List Itm} {vs : List V} {ds : List D} {σ : St} {ρ : Env}, Rel K mg F0 H0 F σ H ρ → MixOk K mg Hs F H ks vs ds → is.length = ks.length →
    (∀ (t : Nat) (a : Addr), ks[t]?.map Itm.own = some true → vs[t]? = some (V.ref a) → ∀ (j : Nat) (e : D), ρ[j]? = some (some (.own e)) → σ[j]? = some (some (V.ref a)) → False) → Rel K mg F0 H0 F (setV σ is vs) H (setK ρ is ks ds)
  | [], [], _, _, _, _, r, .nil, _, _ => r
  | i :: is, k :: ks, v :: vs, d :: ds, σ, ρ, r, .val h1 h2 h3, hl, hA => by
    have r1 := r.put i h2
    have e : k.sl d = .val d := by unfold Itm.sl; rw [h1]; rfl
    show Rel K mg F0 H0 F (setV (σ.set i (some v)) is vs) H (setK (ρ.set i (some (k.sl d))) is ks ds)
    rw [e]
    refine Rel.putK h0 r1 h3 (by simpa using hl) fun t a ht hv j x hj hs => ?_
    by_cases q : j = i
    · subst q
      rw [List.getElem?_set] at hj
      simp only [if_true] at hj
      split at hj <;> cases hj
    · rw [List.getElem?_set_ne (Ne.symm q)] at hj hs
      exact hA (t + 1) a ht hv j x hj hs
  | i :: is, k :: ks, _ :: vs, d :: ds, σ, ρ, r, .own (a := a) h1 h2 h3 h4 h5 h6, hl, hA => by
    have r1 := r.putOwn i h4 h2 (h0.free h3) fun j x _ hj hs => hA 0 a (by show some k.own = _; rw [h1]) rfl j x hj hs
    have e : k.sl d = .own d := by unfold Itm.sl; rw [h1]; rfl
    show Rel K mg F0 H0 F (setV (σ.set i (some (V.ref a))) is vs) H (setK (ρ.set i (some (k.sl d))) is ks ds)
    rw [e]
    refine Rel.putK h0 r1 h6 (by simpa using hl) fun t b ht hv j x hj hs => ?_
    by_cases q : j = i
    · subst q
      have hlen : j < σ.length := by
        have := (List.getElem?_eq_some_iff.mp hs).1
        rwa [List.length_set] at this
      rw [List.getElem?_set_self hlen] at hs
      cases hs
      exact h5 t a ht hv rfl
    · rw [List.getElem?_set_ne (Ne.symm q)] at hj hs
      exact hA (t + 1) b ht hv j x hj hs
  | [], _ :: _, _, _, _, _, _, _, hl, _ => by cases hl
  | _ :: _, [], _, _, _, _, _, _, hl, _ => by cases hl
def sPk (is : List Nat) (ks : List Itm) : SM := fun ρ => (kAll ks ρ).out ρ fun ds => .nx (setK ρ is ks ds)
section
variable {X : Cx} {F0 H0 : Hp} {W : WX} {a b c : Expr} {k1 k2 k3 : Itm} {pos : Pos}
theorem mix_free {K : KW} {mg : Str → Option Value} {Hs F H : Hp} {F1 : Hp} {σ : St} {ρ : Env} {ks : List Itm} {vs : List V} {ds : List D} (r : Rel K mg F0 H0 F1 σ Hs ρ) (l : MixOk K mg Hs F H ks vs ds) : ∀ (t : Nat) (a : Addr), ks[t]?.map Itm.own = some true → vs[t]? = some (V.ref a) → ∀ (j : Nat) (e : D), ρ[j]? = some (some (.own e)) → σ[j]? = some (some (V.ref a)) → False := fun t a ht hv j e hj hs => by
  obtain ⟨v, hv2, b, hb, _, o⟩ := r.sl j _ hj
  obtain ⟨u, hu, _⟩ := o.some
  rw [hs] at hv2
  cases hv2; cases hb
  rw [l.fresh t a ht hv] at hu
  cases hu
theorem sm_pk2 {i j : Nat} {x y : Str} {px py pt : Pos} {kt kt2 : Nat} {pt2 : Pos} (hc : X.calm = true) (hN : X.N.Nodup) (hi : X.N[i]? = some x) (hj : X.N[j]? = some y) (hij : i ≠ j)
    (hx : X.env.scope.names.lookup x = some .local) (hy : X.env.scope.names.lookup y = some .local) (ha : PA X [a, b] (tKm X.kw X.mg F0 H0 W [k1, k2]))
    (hw : swappedStores [.Tuple [.Name x px, .Name y py] kt pt] (.Tuple [a, b] kt2 pt2) X.env = pure (some [x, y]))
    (hs : swapsWithSole [.Tuple [.Name x px, .Name y py] kt pt] (.Tuple [a, b] kt2 pt2) pos.line X.env = pure false := by rfl) :
    PSm X F0 H0 W (.Assign [.Tuple [.Name x px, .Name y py] kt pt] (.Tuple [a, b] kt2 pt2) pos) (sPk [i, j] [k1, k2]) := by
  refine PS.imp (ps_par hc hN hi hj hij hx hy ha hw hs) fun D σ H ⟨F, ρ, r, h⟩ => ⟨F, ρ, r, (OutOk.got r h).imp fun ds k F' H' vs x l => ?_⟩
  have q := Rel.putK (is := [i, j]) r.h0 (r.ext x) l rfl (mix_free r l)
  cases l with
  | val _ _ l => cases l with
    | val _ _ l => cases l; exact ⟨_, _, rfl, k F' _ H' q⟩
    | own _ _ _ _ _ l => cases l; exact ⟨_, _, rfl, k F' _ H' q⟩
  | own _ _ _ _ _ l => cases l with
    | val _ _ l => cases l; exact ⟨_, _, rfl, k F' _ H' q⟩
    | own _ _ _ _ _ l => cases l; exact ⟨_, _, rfl, k F' _ H' q⟩
theorem sm_pk3 {i j l : Nat} {x y z : Str} {px py pz pt : Pos} {kt kt2 : Nat} {pt2 : Pos} (hc : X.calm = true) (hN : X.N.Nodup) (hi : X.N[i]? = some x) (hj : X.N[j]? = some y) (hl : X.N[l]? = some z) (hij : i ≠ j) (hil : i ≠ l) (hjl : j ≠ l)
    (hx : X.env.scope.names.lookup x = some .local) (hy : X.env.scope.names.lookup y = some .local) (hz : X.env.scope.names.lookup z = some .local) (ha : PA X [a, b, c] (tKm X.kw X.mg F0 H0 W [k1, k2, k3]))
    (hw : swappedStores [.Tuple [.Name x px, .Name y py, .Name z pz] kt pt] (.Tuple [a, b, c] kt2 pt2) X.env = pure (some [x, y, z]))
    (hs : swapsWithSole [.Tuple [.Name x px, .Name y py, .Name z pz] kt pt] (.Tuple [a, b, c] kt2 pt2) pos.line X.env = pure false := by rfl) :
    PSm X F0 H0 W (.Assign [.Tuple [.Name x px, .Name y py, .Name z pz] kt pt] (.Tuple [a, b, c] kt2 pt2) pos) (sPk [i, j, l] [k1, k2, k3]) := by
  refine PS.imp (ps_par3 hc hN hi hj hl hij hil hjl hx hy hz ha hw hs) fun D σ H ⟨F, ρ, r, h⟩ => ⟨F, ρ, r, (OutOk.got r h).imp fun ds k F' H' vs x m => ?_⟩
  have q := Rel.putK (is := [i, j, l]) r.h0 (r.ext x) m rfl (mix_free r m)
  have hv : ∃ u v w, vs = [u, v, w] := by
    cases m with
    | val _ _ m => cases m with
      | val _ _ m => cases m with
        | val _ _ m => cases m; exact ⟨_, _, _, rfl⟩
        | own _ _ _ _ _ m => cases m; exact ⟨_, _, _, rfl⟩
      | own _ _ _ _ _ m => cases m with
        | val _ _ m => cases m; exact ⟨_, _, _, rfl⟩
        | own _ _ _ _ _ m => cases m; exact ⟨_, _, _, rfl⟩
    | own _ _ _ _ _ m => cases m with
      | val _ _ m => cases m with
        | val _ _ m => cases m; exact ⟨_, _, _, rfl⟩
        | own _ _ _ _ _ m => cases m; exact ⟨_, _, _, rfl⟩
      | own _ _ _ _ _ m => cases m with
        | val _ _ m => cases m; exact ⟨_, _, _, rfl⟩
        | own _ _ _ _ _ m => cases m; exact ⟨_, _, _, rfl⟩
  obtain ⟨u, v, w, rfl⟩ := hv
  exact ⟨u, v, w, rfl, k F' _ H' q⟩
/-- a method without arguments -/
theorem em_meth0 {c m : Str} {n j k : Nat} {f : List D → R D} {o : Expr} {mo : EM} {apos : Pos} {pl : Sem Bool} (G : MeF X.K X.mg X.prog X.w X.base c m n j f) (hr : Room k X.A) (hj : j ≤ k) (ho : PEm X F0 H0 W o mo) (hn : 1 = n := by rfl)
    (ht : eval (.Call (.Attribute o m apos) [] [] pos) X.env = (do
      let ov ← eval o X.env
      standAt apos.atName
      let (f, first) ← holding [ov] (getMethod ov m pl)
      callWith pos f first (backTo pos (starEach [] X.env)) (backToKw pos (keywordEach [] X.env))) := by rfl) : PEm X F0 H0 W (.Call (.Attribute o m apos) [] [] pos) (eMeth c m f mo []) := by
  obtain ⟨C, fa, fd, ps, hl, hm, cl, M, hb, G⟩ := G
  refine PE.imp (pe_meth0 (ds := []) (dvs := []) (E := fun _ _ _ => False) ho cl M G (hr.mono hj) hb .nil pass_none ht) fun σ H Q ⟨F, ρ, r, g⟩ => ?_
  refine ⟨F, ρ, r, g.bind.imp fun d k F1 H1 v x1 dv => ?_⟩
  cases dv with
  | @obj a C' dx c' fv fs hC hF l =>
    have k' : Got X.mg W F H σ (if c' = c ∧ fs.lookup m = none then (aAll [] ρ).bind fun ds => (f (.obj c' fs :: ds)).nx else .no) fun d => ∀ F' H' v, Ext F H F' H' → Dat X.kw X.mg F' v d → Q v H' := k
    split at k'
    · rename_i ec
      obtain ⟨ec, en⟩ := ec
      subst ec
      rw [hm] at hC; cases hC
      have k2 : Got X.mg W F H σ ((f [.obj c' fs]).nx) fun d => ∀ F' H' v, Ext F H F' H' → Dat X.kw X.mg F' v d → Q v H' := k'
      refine ⟨a, dx, fv, rfl, x1.fh _ _ hF, l.lookN en, ?_⟩
      show spM X.kw X.mg n f (V.ref a :: ([] ++ [])) H1 Q fun _ _ _ => False
      refine ⟨F1, [.obj c' fs], x1.fh, .cons (.obj hm hF l) .nil, hn, ?_⟩
      cases q : f [.obj c' fs] with
      | ok d => rw [q] at k2; exact fun F3 H3 v x3 z => k2 F3 H3 v (x1.trans x3) z
      | ex c => rw [q] at k2; exact False.elim k2
      | no => rw [q] at k2; exact False.elim k2
    · exact False.elim k'
  | _ => exact False.elim k
end

theorem kmF {X : Cx} {F0 H0 : Hp} {W : WX} {e : Expr} {m : EM} (h : PFm X F0 H0 W e m) : PKm X F0 H0 W e ⟨true, m⟩ := h
theorem kmE {X : Cx} {F0 H0 : Hp} {W : WX} {e : Expr} {m : EM} (h : PEm X F0 H0 W e m) : PKm X F0 H0 W e ⟨false, m⟩ := h

/-! ### a[i], b[j] = e -/
def subAt (i : Nat) (mk : EM) (v : D) : SM := fun ρ => match slAt ρ i with
  | some (.own o) => (mk ρ).out ρ fun k => match D.setAt o k v with
    | some o' => .nx (ρ.set i (some (.own o')))
    | none => .no
  | _ => .no
def sSub2 (i : Nat) (mk : EM) (j : Nat) (ml : EM) (m : EM) : SM := fun ρ => (m ρ).out ρ fun d => match d with
  | .tup [x, y] => (subAt i mk x ρ).seq (subAt j ml y)
  | _ => .no
section
variable {X : Cx} {F0 H0 : Hp} {W : WX} {e b c : Expr} {me mb mc : EM} {pos : Pos}
theorem sub_step {En : Ends} {n : SM} {i : Nat} {F H : Hp} {σ : St} {ρ : Env} {v : V} {d : D} {Q : Hp → Prop} (r : Rel X.kw X.mg F0 H0 F σ H ρ) (dv : Dat X.kw X.mg F v d) (h : OutOk X.kw X.mg F0 H0 W En ((subAt i mb d ρ).seq n))
    (k : ∀ F' H' ρ', Rel X.kw X.mg F0 H0 F' σ H' ρ' → Same F F' → OutOk X.kw X.mg F0 H0 W En (n ρ') → Q H') :
    ∃ o, σ[i]? = some (some o) ∧ tEb X.kw X.mg F0 H0 W mb σ H fun x H2 => rSetM X.kw X.mg o x v H2 Q := by
  unfold subAt at h
  split at h
  · rename_i od e0
    obtain ⟨ov, hσ, a, rfl, na, oo⟩ := r.sl i _ (slAt_some e0)
    refine ⟨_, hσ, F, ρ, r, ?_⟩
    have h2 : Got X.mg W F H σ (mb ρ) fun kd => OutOk X.kw X.mg F0 H0 W En ((match D.setAt od kd d with
      | some o' => Out.nx (ρ.set i (some (.own o')))
      | none => .no).seq n) := by
      cases q : mb ρ with
      | ok x => rw [q] at h; exact h
      | ex y => rw [q] at h; exact fun F' H' C x e => h F' σ H' C (r.ext x) e
      | no => rw [q] at h; exact h
    refine h2.imp fun kd k2 F2 H2 w x2 d2 => ?_
    cases z : D.setAt od kd d with
    | none => rw [z] at k2; exact False.elim k2
    | some o' =>
      rw [z] at k2
      obtain ⟨ov', hσ', a', ea, n', oo'⟩ := (r.ext x2).sl i _ (slAt_some e0)
      rw [hσ] at hσ'; cases hσ'; cases ea
      exact ⟨F2, a, od, kd, d, o', rfl, x2.fh, n', oo', d2, dv.mono x2.ff, z, fun u o => k F2 _ _ ((r.ext x2).write (slAt_some e0) hσ o) x2.ff k2⟩
  · exact False.elim h
theorem seq_nil (o : Out) : o.seq (fun ρ => .nx ρ) = o := by cases o <;> rfl
theorem sm_sub2 {i j : Nat} {x y : Str} {p1 p2 p3 p4 pt : Pos} {kt : Nat} (hc : X.calm = true) (hu : X.A.units + 65 < cLine) (he : PEm X F0 H0 W e me) (hb : PBm X F0 H0 W b mb) (hcc : PBm X F0 H0 W c mc) (hN : X.N[i]? = some x) (hv : Vis X.env.scope x) (hN2 : X.N[j]? = some y) (hv2 : Vis X.env.scope y)
    (hd : (x == ("__debug__" : Str)) = false := by decide) (hcd : (x == ("__classdict__" : Str)) = false := by decide) (hd2 : (y == ("__debug__" : Str)) = false := by decide) (hcd2 : (y == ("__classdict__" : Str)) = false := by decide)
    (ha : ∀ v, assign (.Subscript (.Name x p1) b p2) X.env v = (do
      let ov ← holding [v] (eval (.Name x p1) X.env)
      let iv ← holding [v, ov] (eval b X.env)
      standAt p2
      holding [v, ov, iv] (setItem ov iv v)
      release [v, ov, iv] []) := by intro _; rfl)
    (ha2 : ∀ v, assign (.Subscript (.Name y p3) c p4) X.env v = (do
      let ov ← holding [v] (eval (.Name y p3) X.env)
      let iv ← holding [v, ov] (eval c X.env)
      standAt p4
      holding [v, ov, iv] (setItem ov iv v)
      release [v, ov, iv] []) := by intro _; rfl)
    (hs : swapsWithSole [.Tuple [.Subscript (.Name x p1) b p2, .Subscript (.Name y p3) c p4] kt pt] e pos.line X.env = pure false := by rfl) (hw : swappedStores [.Tuple [.Subscript (.Name x p1) b p2, .Subscript (.Name y p3) c p4] kt pt] e X.env = pure none := by rfl)
    (h1 : (assignEach [.Tuple [.Subscript (.Name x p1) b p2, .Subscript (.Name y p3) c p4] kt pt] X.env).map (·.2) = [assign (.Tuple [.Subscript (.Name x p1) b p2, .Subscript (.Name y p3) c p4] kt pt) X.env] := by rfl)
    (q1 : (assignEach [.Subscript (.Name x p1) b p2, .Subscript (.Name y p3) c p4] X.env).map (·.2) = assign (.Subscript (.Name x p1) b p2) X.env :: (assignEach [.Subscript (.Name y p3) c p4] X.env).map (·.2) := by rfl)
    (q2 : (assignEach [.Subscript (.Name y p3) c p4] X.env).map (·.2) = assign (.Subscript (.Name y p3) c p4) X.env :: (assignEach [] X.env).map (·.2) := by rfl)
    (q3 : (assignEach [.Subscript (.Name x p1) b p2, .Subscript (.Name y p3) c p4] X.env).length = 2 := by rfl) (q4 : (assignEach [.Subscript (.Name x p1) b p2, .Subscript (.Name y p3) c p4] X.env).findIdx? (·.1) = none := by rfl) :
    PSm X F0 H0 W (.Assign [.Tuple [.Subscript (.Name x p1) b p2, .Subscript (.Name y p3) c p4] kt pt] e pos) (sSub2 i mb j mc me) := by
  refine PS.imp (ps_asg he (pg_tup hc (pgs_cons (pg_sub (pe_var hN hv hd hcd) hb (set_any hu) ha) (pgs_cons (pg_sub (pe_var hN2 hv2 hd2 hcd2) hcc (set_any hu) ha2) pgs_nil q2) q1) q3 q4) hs hw h1) fun En σ H ⟨F, ρ, r, h⟩ => ⟨F, ρ, r, (OutOk.got r h).imp fun d k F1 H1 v x1 d1 => ?_⟩
  split at k
  · rename_i dx dy
    cases d1 with
    | @tup a xs _ hF l =>
      cases l with
      | @cons vx _ _ _ hx l => cases l with
        | @cons vy _ _ _ hy l =>
          cases l
          refine ⟨a, _, rfl, SqT.of (x1.fh _ _ hF), rfl, _, _, rfl, ?_⟩
          obtain ⟨o, ho, z⟩ := sub_step (r.ext x1) hx k (Q := fun H' => gCons (gSub (tVar j) (tEb X.kw X.mg F0 H0 W mc) (rSetM X.kw X.mg)) gNil [vy] σ H' fun σ' H' => En.nx σ' H') fun F' H' ρ' r' s' h' => by
            rw [← seq_nil (subAt j mc dy ρ')] at h'
            obtain ⟨o, ho, z⟩ := sub_step r' (hy.mono s') h' (Q := fun H' => gNil [] σ H' fun σ' H' => En.nx σ' H') fun F2 H2 ρ2 r2 _ h2 => ⟨rfl, h2 F2 σ H2 r2⟩
            exact ⟨vy, [], rfl, o, ho, z⟩
          exact ⟨o, ho, z⟩
  · exact False.elim k
end

/-! ### x = [.. for .. in d ..], d a dict that slot i holds alone: locked meanwhile; the items are plain -/
def rmF (F : Hp) (a : Addr) : Hp := fun b => if b = a then none else F b
def sSetLk (j i : Nat) (m : EM) : SM := fun ρ => match ρ[i]? with
  | some (some (.own (.dct t ps))) => match m (ρ.set i (some (.val (.dct t ps)))) with
    | .ok (.lst ds) => if ds.all D.flat then .nx (ρ.set j (some (.val (.lst ds)))) else .no
    | _ => .no
  | _ => .no
theorem flat_dat {K : KW} {mg : Str → Option Value} {F F' : Hp} : ∀ {vs : List V} {ds : List D}, DatL K mg F vs ds → ds.all D.flat = true → DatL K mg F' vs ds
  | _, _, .nil, _ => .nil
  | _, _, .cons h l, e => by
    obtain ⟨e1, e2⟩ := Bool.and_eq_true_iff.mp (show (D.flat _ && List.all _ D.flat) = true from e)
    refine .cons ?_ (flat_dat l e2)
    cases h with
    | non => exact .non
    | bl b => exact .bl b
    | int i => exact .int i
    | str x => exact .str x
    | _ => cases e1
section
variable {X : Cx} {F0 H0 : Hp} {W : WX} {me : EM}
theorem lock_read {i j : Nat} {m : EM} {te : TE} (hl : ∀ σ H Q, tEf X.kw X.mg F0 H0 W m σ H Q → te σ H Q) : ∀ D σ H, tSm X.kw X.mg F0 H0 W (sSetLk j i m) D σ H → tLock (tAsg te (gName j)) D σ H := by
  rintro En σ H ⟨F, ρ, r, q⟩
  unfold sSetLk at q
  split at q
  · rename_i t ps e
    obtain ⟨a, u, hu, mu, _, hσ, na, o, k⟩ := r.freeze e
    refine ⟨a, u, hu, mu, fun od => ?_⟩
    have hfz : frzTo od u = .frz od u := by
      cases t with
      | false => obtain ⟨kvs, h, _⟩ := o; rw [hu] at h; cases h; rfl
      | true => obtain ⟨kvs, h, _⟩ := o; rw [hu] at h; cases h; rfl
    obtain ⟨_, r1⟩ := k od
    rw [hfz] at r1
    refine hl σ _ _ ⟨_, _, r1, ?_⟩
    split at q
    · rename_i ds em
      rw [em]
      intro F' H' x x1 nx n0 ⟨vs, hx, l⟩
      split at q
      · rename_i hfl
        have hFa : F' a = some (.frz od u) := x1.ff a _ upd_same
        have hHa : H' a = some (.frz od u) := x1.fh a _ hFa
        have hxa : x ≠ a := fun z => by rw [z, hFa] at nx; cases nx
        have n1 : H x = none := by rw [upd_ne hxa] at n0; exact n0
        refine ⟨hHa, ?_⟩
        have x2 : Ext F H (upd (rmF F' a) x (.lst vs)) (upd H' a u) := by
          refine ⟨fun b w hb => ?_, fun b w hb => ?_, fun b w hb => ?_, fun b w hb hn => ?_⟩
          · have hba : b ≠ a := ne_of_none hb na
            have hF : F' b = some w := x1.ff b w (by rw [upd_ne hba]; exact hb)
            have hbx : b ≠ x := ne_of_none hF nx
            rw [upd_ne hbx]
            unfold rmF
            rw [if_neg hba]; exact hF
          · by_cases hbx : b = x
            · subst hbx
              rw [upd_same] at hb; cases hb
              rw [upd_ne hxa]; exact hx
            · rw [upd_ne hbx] at hb
              unfold rmF at hb
              split at hb
              · cases hb
              · rename_i hba
                rw [upd_ne hba]; exact x1.fh b w hb
          · by_cases hba : b = a
            · subst hba
              rw [upd_same]; rw [hu] at hb; exact hb
            · rw [upd_ne hba]
              exact x1.hh b w (by rw [upd_ne hba]; exact hb)
          · by_cases hbx : b = x
            · subst hbx; exact .inl n1
            · rw [upd_ne hbx] at hb
              unfold rmF at hb
              split at hb
              · cases hb
              · rename_i hba
                rcases x1.nw b w hb (by rw [upd_ne hba]; exact hn) with z | z
                · rw [upd_ne hba] at z; exact .inl z
                · exact .inr z
        exact q _ _ _ ((r.ext x2).put j (.lst upd_same (flat_dat l hfl)))
      · exact False.elim q
    · exact False.elim q
  · exact False.elim q
theorem sm_setLcK {i k : Nat} {y : Str} {py : Pos} {elt tg iter : Expr} {ifs : List Expr} {scope : Scope} {own : List (Str × Nat)} {pos spos : Pos} {g : TG} {gm : GM} {p : TM} {mi : AM} (hc : X.calm = true) (hN : X.N.Nodup) (hy : X.N[i]? = some y) (hyl : X.env.scope.names.lookup y = some .local)
    (hsw : swapsWith (.ListComp elt [⟨tg, iter, ifs, 0⟩] scope pos) (some (.Name y py)) spos.line X.env = pure true) (hi : PIm X F0 H0 W tg iter mi) (ok : BlkOk X.N X.env.scope scope own) (gok : GOk X.kw X.mg F0 H0 g (own.map (·.2)) gm)
    (hg : ∀ (s : Shared) (H : Hp) (C : Addr) (cl : List (Str × Addr)) (fp : List Addr), PG (X.blk s H scope (compEnvC scope cl C X.env) fp) tg g) (ht : ∀ (s : Shared) (H : Hp) (C : Addr) (cl : List (Str × Addr)) (fp : List Addr), PTsm (X.blk s H scope (compEnvC scope cl C X.env) fp) F0 H0 ifs p)
    (he : ∀ (s : Shared) (H : Hp) (C : Addr) (cl : List (Str × Addr)) (fp : List Addr), PEm (X.blk s H scope (compEnvC scope cl C X.env) fp) F0 H0 W0 elt me) (hs : ∀ x, foldedSetIterable iter X.env x = pure x := by intro _; rfl) :
    PSm X F0 H0 W (.Assign [.Name y py] (.ListComp elt [⟨tg, iter, ifs, 0⟩] scope pos) spos) (sSetLk i k (eLc (own.map (·.2)) gm mi p me)) :=
  PS.imp (ps_lock (ps_setLc (tt := tTm X.kw X.mg F0 H0 W0 p) (te := tE X.kw X.mg F0 H0 W0 me) hc hN hy hyl hsw hi ok hg ht he hs)) (lock_read fun σ H Q z => lc_read (fun _ _ _ z => z) gok σ H Q z)
end
/-! ### sorted, either way -/
def bSortX (xs : List D) : Option D := match bSorted xs with
  | some d => some d
  | none => bSortD xs
theorem cm_sortX {X : Cx} (hc : X.calm = true) (hu : X.A.units + 65 < cLine) : CallM X (.builtin "sorted") bSortX := by
  rintro pins s σ H xs us Q I r ⟨F, ds, d, fh, l, e, k⟩
  unfold bSortX at e
  cases q : bSorted ds with
  | some d' =>
    rw [q] at e; cases e
    exact cm_sorted hc pins s σ H xs us Q I r ⟨F, ds, _, fh, l, q, k⟩
  | none =>
    rw [q] at e
    exact cm_sortD hc hu pins s σ H xs us Q I r ⟨F, ds, d, fh, l, e, k⟩
theorem sortX_nats {l : List Nat} (h : l.length < 64) : bSortX [.lst (nats l)] = some (.lst (nats (sortN l))) := by
  unfold bSortX
  rw [sorted_nats h]
end L2.Pv

set_option Elab.async false
set_option linter.all false
set_option maxRecDepth 100000
set_option maxHeartbeats 4000000
set_option autoImplicit false
/-! sorted(d.items()). -/
namespace L2.Pv
open PySem PySem.Spec PyProof.Rows
open PySem.W (EachIs)
open L2.DX
section
variable {X : Cx}
theorem raw_of {kvs : List (Key × V)} {pins : List (Addr × Obj)} {σ : St} {H : Hp} {s : Shared} {a : Addr} (I : Inv X pins σ H s) (h : Rd H a (.dK kvs)) : kvs.length ≤ sizeLine ∧ (a == sysModules) = false ∧ ∃ (vs : List (Key × Value)) (es : Array DictEntry) (ep : Nat), KV kvs vs ∧ DT.Raw s.heap a es ep ∧ KeysOf (mixKind X.prog X.w) es ∧ Pairs (mixKind X.prog X.w) es.toList vs := by
  obtain ⟨z, hd, vs, rk, hD⟩ := dk_rd I.hok h
  obtain ⟨ep, o, es, ho, hx, hdt, h1, h2, _⟩ := hD.dictAt
  exact ⟨z, hd, vs, es, ep, rk, ⟨o, ho, hx, hdt⟩, h1, h2⟩
def rItemsK : V → List V → Hp → VK → Prop := fun x xs H Q => ∃ (a : Addr) (kvs : List (Key × V)), x = .ref a ∧ xs = [] ∧ Rd H a (.dK kvs) ∧ ∀ p, H p = none → Q (.ref p) (upd H p (itemsO p a))
theorem mt_itemsK : MtR X "dict.items" rItemsK := by
  intro pins s σ H x xs v us Q I rx rxs h
  obtain ⟨a, kvs, rfl, rfl, ha, q⟩ := h
  cases rx
  cases rxs
  obtain ⟨z, hd, vs, es, ep, rk, raw, _, _⟩ := raw_of I ha
  refine DT.callItems (es := es) (ep := ep) hd raw ?_
  have hf : H s.heap.objs.size = none := I.hok.fresh (Nat.le_refl _)
  exact ⟨.ref s.heap.objs.size, upd H s.heap.objs.size (itemsO s.heap.objs.size a), I.laid (t' := s.toks) (fun b u e => Heap.get?_push_of_some _ e) (Nat.le_refl _) (itemsO_ok (Heap.get?_push_size _ rfl)), rfl, q _ hf⟩
/-- the pairs of a dict, as data -/
def pairsD (ps : List (D × D)) : List D := ps.map fun p => .tup [p.1, p.2]
def bItems (d : D) : Option D := match d with
  | .dct false ps => if sortOk (pairsD ps) && decide (ps.length ≤ lim) && ps.all (fun p => p.1.flat && p.2.flat) then some (.lst (sortD (pairsD ps))) else none
  | _ => none
theorem pair_at {K : KW} {mg : Str → Option Value} {P : Program} {w : World} {F : Hp} : ∀ {kvs : List (Key × V)} {vs : List (Key × Value)} {es : List DictEntry} {ps : List (D × D)} {j : Nat} {e : DictEntry}, KV kvs vs → Pairs (mixKind P w) es vs → DatK K mg F kvs ps → es[j]? = some e →
    ∃ x y p, ps[j]? = some p ∧ RelV x e.key ∧ RelV y e.val ∧ Dat K mg F x p.1 ∧ Dat K mg F y p.2
  | _, _, _, _, _, _, .nil, .nil, .nil, h => by cases h
  | (kk, vv) :: _, (k', v') :: _, e0 :: _, (_, dd) :: _, 0, _, .cons r rs, .cons h1 h2 hs, .cons q qs, h => by
    cases h
    obtain ⟨r1, r2⟩ := r
    have r1 : kk = k' := r1
    subst r1
    exact ⟨kV kk, vv, (keyD kk, dd), rfl, keyIs_rel h1, by rw [h2]; exact r2, keyD_dat kk, q⟩
  | _, _, _, _, j + 1, _, .cons r rs, .cons h1 h2 hs, .cons q qs, h => pair_at (j := j) rs hs qs h
theorem flat_reads {K : KW} {mg : Str → Option Value} {F : Hp} {h : Heap} {v : V} {u : Value} {d : D} (q : Dat K mg F v d) (r : RelV v u) (e : d.flat = true) : Reads h u d.py [] := by
  cases q with
  | non => cases r; exact .none
  | bl b => cases r; exact .bool b
  | int i => obtain ⟨t, rfl⟩ := r; exact .int i t
  | str x => obtain ⟨t, rfl⟩ := r; exact .str x t
  | _ => cases e
theorem each_ix {α β : Type} {R : α → β → Prop} : ∀ {as : List α} {bs : List β}, as.length = bs.length → (∀ (j : Nat) (a : α) (b : β), as[j]? = some a → bs[j]? = some b → R a b) → EachIs R as bs
  | [], [], _, _ => .nil
  | a :: as, b :: bs, hl, h => .cons (h 0 a b rfl rfl) (each_ix (by simpa using hl) fun j a b ha hb => h (j + 1) a b ha hb)
  | [], _ :: _, hl, _ => by cases hl
  | _ :: _, [], hl, _ => by cases hl
def rSortItems (X : Cx) : List V → Hp → VK → Prop := fun vs H Q => ∃ F p a kvs ps d, vs = [.ref p] ∧ H p = some (itemsO p a) ∧ Same F H ∧ Rd H a (.dK kvs) ∧ DatK X.kw X.mg F kvs ps ∧ bItems (.dct false ps) = some d ∧ ∀ F' H' v, Ext F H F' H' → Dat X.kw X.mg F' v d → Q v H'
theorem cr_sortItems (hc : X.calm = true) (hu : X.A.units + 65 < cLine) : CallR X (.builtin "sorted") (rSortItems X) := by
  intro pins s σ H xs us Q I r h
  obtain ⟨F, p, a, kvs, ps, d, rfl, hp, fh, ha, l, hb, k⟩ := h
  obtain rfl := Vals.ref1 r
  have hb : (if (sortOk (pairsD ps) && decide (ps.length ≤ lim) && ps.all (fun p => p.1.flat && p.2.flat)) = true then some (D.lst (sortD (pairsD ps))) else none) = some d := hb
  by_cases hok : (sortOk (pairsD ps) && decide (ps.length ≤ lim) && ps.all (fun p => p.1.flat && p.2.flat)) = true
  case neg => rw [if_neg hok] at hb; cases hb
  rw [if_pos hok] at hb
  cases hb
  obtain ⟨hok, hfl⟩ := Bool.and_eq_true_iff.mp hok
  obtain ⟨hok, hlim⟩ := Bool.and_eq_true_iff.mp hok
  have hlim := of_decide_eq_true hlim
  obtain ⟨hok2, hsh⟩ := Bool.and_eq_true_iff.mp hok
  obtain ⟨hal, hso⟩ := Bool.and_eq_true_iff.mp hok2
  have view : s.heap.IsItemsView p a := (show ObjOk X.prog X.w H s.heap p (itemsO p a) from I.hok p _ hp).1
  obtain ⟨z, hd, vs, es, ep, rk, raw, hk1, hk2⟩ := raw_of I ha
  have lkv : kvs.length = vs.length := Paired.length rk
  have les : es.size = vs.length := by
    have go : ∀ {es : List DictEntry} {vs : List (Key × Value)}, Pairs (mixKind X.prog X.w) es vs → es.length = vs.length := by
      intro es vs h
      induction h with
      | nil => rfl
      | cons _ _ _ ih => exact congrArg (· + 1) ih
    have := go hk2
    rwa [Array.length_toList] at this
  have lps : kvs.length = ps.length := l.len
  refine DT.sortedI (es := es) (ep := ep) (I.ok.hd hc) view raw (by omega) fun h' tk as hk hlt hl hG => ?_
  have nd : as.Nodup := List.Pairwise.imp (fun h => Nat.ne_of_lt h) hG.rise
  have pr : ∀ (j : Nat) (b : Addr), as[j]? = some b → ∃ (u1 u2 : Value) (x y : V) (q : D × D), ps[j]? = some q ∧ RelV x u1 ∧ RelV y u2 ∧ Dat X.kw X.mg F x q.1 ∧ Dat X.kw X.mg F y q.2 ∧ h'.get? b = some { cls := .type "tuple", data := .seq #[u1, u2] } := by
    intro j b hj
    obtain ⟨e, he, hg⟩ := hG.pairs j b hj
    obtain ⟨x, y, q, hq, r1, r2, d1, d2⟩ := pair_at rk hk2 l (by rw [Array.getElem?_toList]; exact he)
    exact ⟨_, _, x, y, q, hq, r1, r2, d1, d2, hg⟩
  have hob : (h'.push { cls := .type "list", data := .seq (as.map Value.ref).toArray }).get? h'.objs.size = some (seqObj "list" (as.map Value.ref).toArray 0) := Heap.get?_push_size _ rfl
  generalize hh2 : h'.push { cls := .type "list", data := .seq (as.map Value.ref).toArray } = h2 at hob ⊢
  have ka : ∀ b o, h'.get? b = some o → h2.get? b = some o := fun b o e => by rw [← hh2]; exact Heap.get?_push_of_some _ e
  have fr : ∀ b ∈ as, H b = none := fun b hb => I.hok.fresh (Nat.le_of_lt (hG.above b hb))
  have las : as.length = (pairsD ps).length := by unfold pairsD; rw [List.length_map]; omega
  have e1 : EachIs (fun u d => ∃ (j : Nat) (b : Addr), u = Value.ref b ∧ as[j]? = some b ∧ (pairsD ps)[j]? = some d) (as.map Value.ref) (pairsD ps) := each_ix (by rw [List.length_map]; exact las) fun j u dd hu hdd => by
    rw [List.getElem?_map] at hu
    cases hj : as[j]? with
    | none => rw [hj] at hu; cases hu
    | some b => rw [hj] at hu; cases hu; exact ⟨j, b, rfl, hj, hdd⟩
  have er : EachIs (fun u d => ∃ as', Reads h2 u d.py as' ∧ h'.objs.size ∉ as') (as.map Value.ref) (pairsD ps) := each_ix (by rw [List.length_map]; exact las) fun j u dd hu hdd => by
    rw [List.getElem?_map] at hu
    cases hj : as[j]? with
    | none => rw [hj] at hu; cases hu
    | some b =>
      rw [hj] at hu; cases hu
      obtain ⟨u1, u2, x, y, q, hq, r1, r2, d1, d2, hg⟩ := pr j b hj
      unfold pairsD at hdd
      rw [List.getElem?_map, hq] at hdd
      cases hdd
      obtain ⟨f1, f2'⟩ := Bool.and_eq_true_iff.mp (List.all_eq_true.mp hfl q (List.mem_of_getElem? hq))
      exact ⟨[], .tuple (ka _ _ hg) rfl rfl (.cons (flat_reads d1 r1 f1) (.cons (flat_reads d2 r2 f2') .nil)), by simp⟩
  have dp : ∀ d ∈ pairsD ps, d.py.canLay0 = true ∧ d.py.depth ≤ 60 := fun d hd => sh_py 60 d (List.all_eq_true.mp hsh d hd)
  have al : PySem.W.AllAlike ((pairsD ps).map D.py) := fun x hx y hy => by
    obtain ⟨x', hx', rfl⟩ := List.mem_map.mp hx
    obtain ⟨y', hy', rfl⟩ := List.mem_map.mp hy
    exact List.all_eq_true.mp (List.all_eq_true.mp hal x' hx') y' hy'
  have so : PySem.W.Sortable ((pairsD ps).map D.py) := .inl fun x hx => by
    obtain ⟨d, hd, rfl⟩ := List.mem_map.mp hx
    obtain ⟨q, _, rfl⟩ := List.mem_map.mp hd
    exact ⟨_, _, rfl⟩
  have lpd : (pairsD ps).length = ps.length := by unfold pairsD; rw [List.length_map]
  refine PySem.W.list_sort_data (s := { s with heap := h2, toks := tk }) (bs := pairsD ps) (enc := D.py) hob e1 er al so (by rw [lpd]; exact lim_line hlim) (fun d hd => by have := (dp d hd).2; show X.A.units + 1 + 1 + _ < _; omega) fun out ho eo => ?_
  obtain ⟨c, hcc⟩ := PyProof.Rows.sortedHeap_at (vs := as.map Value.ref) (out := out.toArray) hob
  have hLas : h'.objs.size ∉ as := fun hm => absurd (hG.there hm) (Nat.lt_irrefl _)
  have kF : ∀ b o, b ≠ h'.objs.size → h2.get? b = some o → (sortedHeap h2 h'.objs.size (as.map Value.ref) out.toArray).get? b = some o := fun b o hb e => (PyProof.Rows.sortedHeap_old hb (Heap.lt_size e)).trans e
  have kS : ∀ b o, s.heap.get? b = some o → (sortedHeap h2 h'.objs.size (as.map Value.ref) out.toArray).get? b = some o := fun b o e => kF b o (Nat.ne_of_lt (Nat.lt_trans (Heap.lt_size e) hlt)) (ka b o (hk b o e))
  have refs : ∀ {out : List Value} {ds : List D}, EachIs (fun u d => ∃ (j : Nat) (b : Addr), u = Value.ref b ∧ as[j]? = some b ∧ (pairsD ps)[j]? = some d) out ds → ∃ bs : List Addr, out = bs.map Value.ref ∧ EachIs (fun b d => ∃ j : Nat, as[j]? = some b ∧ (pairsD ps)[j]? = some d) bs ds := by
    intro out ds h
    induction h with
    | nil => exact ⟨[], rfl, .nil⟩
    | cons h _ ih =>
      obtain ⟨j, b, rfl, h1, h2⟩ := h
      obtain ⟨bs, rfl, e⟩ := ih
      exact ⟨b :: bs, rfl, .cons ⟨j, h1, h2⟩ e⟩
  obtain ⟨bs, rfl, eb⟩ := refs eo
  have hn0 : H h'.objs.size = none := I.hok.fresh (Nat.le_of_lt hlt)
  rw [List.length_map] at ho
  have IL : Inv X pins σ (upd H h'.objs.size (.lst (bs.map V.ref))) { s with heap := sortedHeap h2 h'.objs.size (as.map Value.ref) (bs.map Value.ref).toArray, toks := tk } :=
    I.laid (t' := tk) kS (Nat.le_of_lt hlt) ⟨by rw [List.length_map, ho, lpd]; exact lim_line hlim, bs.map Value.ref, c, vals_refs bs, hcc⟩
  obtain ⟨H2, I2, g, qt⟩ := takeT (P := fun b ws => ∃ (j : Nat) (x y : V) (q : D × D), as[j]? = some b ∧ ps[j]? = some q ∧ ws = [x, y] ∧ Dat X.kw X.mg F x q.1 ∧ Dat X.kw X.mg F y q.2) I as _ IL nd fun b hb => by
    obtain ⟨j, hj⟩ := List.mem_iff_getElem?.mp hb
    obtain ⟨u1, u2, x, y, q, hq, r1, r2, d1, d2, hg⟩ := pr j b hj
    have hbL : b ≠ h'.objs.size := fun z => hLas (by rw [← z]; exact hb)
    exact ⟨Nat.le_of_lt (hG.above b hb), by rw [upd_ne hbL]; exact fr b hb, [x, y], ⟨j, x, y, q, hj, hq, rfl, d1, d2⟩, fun H2 => ⟨by show 2 ≤ sizeLine; decide, [u1, u2], .cons r1 (.cons r2 .nil), ⟨_, kF _ _ hbL (ka _ _ hg), rfl, _, rfl⟩⟩⟩
  have hHL : H2 h'.objs.size = some (.lst (bs.map V.ref)) := g _ _ upd_same
  have gH : ∀ b o, H b = some o → H2 b = some o := fun b o e => g b o (by rw [upd_ne (ne_of_none e hn0)]; exact e)
  have hF2 : ∃ F2 : Hp, Ext F H F2 H2 ∧ (∀ b ∈ as, F2 b = H2 b) ∧ F2 h'.objs.size = H2 h'.objs.size := by
    refine ⟨fun b => if b ∈ as ∨ b = h'.objs.size then H2 b else F b, ⟨fun b o e => ?_, fun b o e => ?_, gH, fun b o e n => ?_⟩, fun b hb => if_pos (.inl hb), if_pos (.inr rfl)⟩
    · show (if b ∈ as ∨ b = h'.objs.size then H2 b else F b) = some o
      split
      · exact gH b o (fh b o e)
      · exact e
    · have e : (if b ∈ as ∨ b = h'.objs.size then H2 b else F b) = some o := e
      split at e
      · exact e
      · exact gH b o (fh b o e)
    · have e : (if b ∈ as ∨ b = h'.objs.size then H2 b else F b) = some o := e
      split at e
      · rename_i hb
        rcases hb with hb | hb
        · exact .inl (fr b hb)
        · rw [hb]; exact .inl hn0
      · rw [n] at e; cases e
  obtain ⟨F2, x2, f2, fL⟩ := hF2
  have dats : ∀ (j : Nat) (b : Addr) (dd : D), as[j]? = some b → (pairsD ps)[j]? = some dd → Dat X.kw X.mg F2 (.ref b) dd := by
    intro j b dd hj hdd
    have hb := List.mem_of_getElem? hj
    obtain ⟨ws, ⟨j', x, y, q, hj', hq, rfl, d1, d2⟩, hH⟩ := qt b hb
    have ej : j' = j := ((List.getElem?_inj (List.getElem?_eq_some_iff.mp hj').1 nd).mp (hj'.trans hj.symm))
    subst ej
    unfold pairsD at hdd
    rw [List.getElem?_map, hq] at hdd
    cases hdd
    exact .tup ((f2 b hb).trans hH) (.cons (d1.mono x2.ff) (.cons (d2.mono x2.ff) .nil))
  have dl : DatL X.kw X.mg F2 (bs.map V.ref) (sortD (pairsD ps)) := by
    have go : ∀ {bs : List Addr} {ds : List D}, EachIs (fun b d => ∃ j : Nat, as[j]? = some b ∧ (pairsD ps)[j]? = some d) bs ds → DatL X.kw X.mg F2 (bs.map V.ref) ds := by
      intro bs ds h
      induction h with
      | nil => exact .nil
      | cons h _ ih => obtain ⟨j, h1, h2⟩ := h; exact .cons (dats j _ _ h1 h2) ih
    exact go eb
  exact ⟨.ref h'.objs.size, H2, I2, rfl, k F2 H2 _ x2 (.lst (fL.trans hHL) dl)⟩
end
section
variable {X : Cx} {F0 H0 : Hp} {W : WX} {o : Expr} {to : TE} {mo : EM} {apos cpos pos p1 : Pos}
theorem pe_itemsR (ho : PE X o to) (hbase : attributeBase o "items" X.env (eval o X.env) = eval o X.env := by rfl) (hline : (apos.endLine == cpos.line) = true := by rfl) :
    PE X (.Call (.Attribute o "items" apos) [] [] cpos) (fun σ H Q => to σ H fun x H1 => ∃ a, x = .ref a ∧ IsD H1 a ∧ rItemsK x [] H1 Q) := by
  refine ⟨fun pins s σ H Q I h => ?_⟩
  refine wpAny_Call_method0_late hbase hline (thn (ho.run pins s σ H _ I h) fun v s1 ⟨x, H1, I1, r1, a, ex, isd, q1⟩ => ?_)
  subst ex
  cases r1
  obtain ⟨h1, h2, _⟩ := isD_at I1 isd
  exact ⟨"dict", "dict.items", PySem.F.plainAttrs_dict, PySem.F.slot_dict_items, PySem.F.type_dict_items, h1, h2, Calls.callWith_builtin rfl (PySem.evalArgs_none (mt_itemsK pins s1 σ H1 (V.ref a) [] _ [] Q I1 (show RelV (V.ref a) (Value.ref a) from rfl) .nil q1))⟩
/-- sorted(o.items()) -/
def eItems (mo : EM) : EM := fun ρ => (mo ρ).bind fun d => R.of (bItems d)
theorem em_sortItems (hc : X.calm = true) (hu : X.A.units + 65 < cLine) (hg : Gl X "sorted") (hm : X.mg "sorted" = none) (hv : bootBuiltins "sorted" = some (.builtin "sorted")) (ho : PBm X F0 H0 W o mo) (hbase : attributeBase o "items" X.env (eval o X.env) = eval o X.env := by rfl) (hline : (apos.endLine == cpos.line) = true := by rfl)
    (hs : starEach [.Call (.Attribute o "items" apos) [] [] cpos] X.env = (false, eval (.Call (.Attribute o "items" apos) [] [] cpos) X.env) :: starEach [] X.env := by rfl) (hpl : (backTo pos (starEach [] X.env)).any (·.1) = false := by rfl) :
    PEm X F0 H0 W (.Call (.Name "sorted" p1) [.Call (.Attribute o "items" apos) [] [] cpos] [] pos) (eItems mo) := by
  refine PE.imp (pe_callB (cr_sortItems hc hu) hg hm hv (pa_cons (pe_itemsR ho hbase hline) pa_nil hs) (by decide) (by decide) hs hpl) fun σ H Q ⟨F, ρ, r, g⟩ => ?_
  refine ⟨F, ρ, r, g.bind.imp fun d k F1 H1 v x1 q => ?_⟩
  obtain ⟨d2, e, k2⟩ := k.of
  have key : ∃ ps, d = .dct false ps := by
    unfold bItems at e
    split at e
    · exact ⟨_, rfl⟩
    · cases e
  obtain ⟨ps, rfl⟩ := key
  obtain ⟨a, kvs, rfl, hr, l⟩ := q.dctK x1.fh
  refine ⟨a, rfl, .inl ⟨kvs, hr⟩, a, kvs, rfl, rfl, hr, fun p np => ?_⟩
  have sp : Same H1 (upd H1 p (itemsO p a)) := same_upd np
  refine ⟨F1, p, a, kvs, ps, d2, rfl, upd_same, x1.fh.trans sp, Rd.mono sp hr, l, e, fun F' H' v x z => k2 F' H' v (x1.trans (Ext.trans ⟨Same.refl F1, x1.fh.trans sp, sp, fun b u e n => by rw [n] at e; cases e⟩ x)) z⟩
end
end L2.Pv

set_option Elab.async false
set_option linter.all false
set_option maxRecDepth 100000
set_option maxHeartbeats 4000000
set_option autoImplicit false
/-! More words of the layer. -/
namespace L2.Pv
open PySem PySem.Spec PyProof.Rows

/-! ### not d, d a dict of numbers and texts -/
section
variable {X : Cx} {F0 H0 : Hp} {W : WX} {a : Expr} {ma : EM} {ta : TE} {pos : Pos}
def tNotD (ta : TE) : TE := fun σ H Q => ta σ H fun x H1 => ∃ b kvs, x = .ref b ∧ Rd H1 b (.dK kvs) ∧ Q (.bl kvs.isEmpty) H1
theorem pe_notD (ha : PE X a ta) : PE X (.UnaryOp .Not a pos) (tNotD ta) := by
  refine ⟨fun pins s σ H Q I h => ?_⟩
  refine UnaryOp_ (thn (ha.run pins s σ H _ I h) fun v s1 ⟨x, H1, I1, r1, q1⟩ => ?_)
  obtain ⟨b, kvs, rfl, e, q1⟩ := q1
  cases r1
  refine not_of (d_truth I1 e fun s' I' => ⟨.bl kvs.isEmpty, H1, I', ?_, q1⟩)
  show Value.bool (!(!kvs.isEmpty)) = Value.bool kvs.isEmpty
  rw [Bool.not_not]
def eNotD (ma : EM) : EM := fun ρ => (ma ρ).bind fun x => match x with
  | .dct false ps => .ok (.bl ps.isEmpty)
  | _ => .no
theorem DatK.isE {K : KW} {mg : Str → Option Value} {F : Hp} {kvs : List (Key × V)} {ps : List (D × D)} (l : DatK K mg F kvs ps) : kvs.isEmpty = ps.isEmpty := by cases l <;> rfl
theorem em_notD (ha : PBm X F0 H0 W a ma) : PEm X F0 H0 W (.UnaryOp .Not a pos) (eNotD ma) := by
  refine PE.imp (pe_notD ha) fun σ H Q ⟨F, ρ, r, g⟩ => ?_
  refine ⟨F, ρ, r, g.bind.imp fun d k F' H' v x q => ?_⟩
  split at k
  · rename_i ps
    obtain ⟨b, kvs, rfl, e, l⟩ := q.dctK x.fh
    refine ⟨b, kvs, rfl, e, ?_⟩
    rw [l.isE]
    exact k F' H' _ x (.bl _)
  · exact False.elim k
end
end L2.Pv

set_option Elab.async false
set_option linter.all false
set_option maxRecDepth 100000
set_option maxHeartbeats 4000000
set_option autoImplicit false
/-! sorted(d), d a dict whose keys are tuples. -/
namespace L2.Pv
open PySem PySem.Spec PyProof.Rows
open PySem.W (alike dataLe EachIs AllAlike Sortable sorted_data)

def bSortKT : List D → Option D
  | [.dct true ps] => if sortOk (ps.map (·.1)) && (ps.map (·.1)).all (fun d => match d with
      | .tup _ => true
      | _ => false) && decide (ps.length ≤ lim) then some (.lst (sortD (ps.map (·.1)))) else none
  | _ => none
theorem paired_get {α β : Type} {R : α → β → Prop} : ∀ {l : List α} {m : List β} {j : Nat} {b : β}, Paired R l m → m[j]? = some b → ∃ a, l[j]? = some a ∧ R a b
  | _, _, _, _, .nil, h => by simp at h
  | _, _, 0, _, .cons r _, h => by cases h; exact ⟨_, rfl, r⟩
  | _, _, j + 1, _, .cons _ rs, h => paired_get (j := j) rs h
theorem DatT.fst {K : KW} {mg : Str → Option Value} {F : Hp} : ∀ {kvs : List (List Key × V)} {ps : List (D × D)}, DatT K mg F kvs ps → ps.map (·.1) = kvs.map fun p => D.tup (p.1.map keyD)
  | _, _, .nil => rfl
  | _, _, .cons _ l => by rw [List.map_cons, List.map_cons, l.fst]
section
variable {X : Cx}
theorem cm_sortKT (hc : X.calm = true) (hu : X.A.units + 65 < cLine) : CallM X (.builtin "sorted") bSortKT := by
  rintro pins s σ H xs us Q I r ⟨F, ds, d, fh, l, e, k⟩
  unfold bSortKT at e
  split at e
  case h_2 => cases e
  rename_i ps
  split at e
  case isFalse => cases e
  rename_i hok
  cases e
  obtain ⟨hok, hlim⟩ := Bool.and_eq_true_iff.mp hok
  obtain ⟨hok, htu⟩ := Bool.and_eq_true_iff.mp hok
  obtain ⟨hok2, hsh⟩ := Bool.and_eq_true_iff.mp hok
  obtain ⟨hal, hso⟩ := Bool.and_eq_true_iff.mp hok2
  have hlim := of_decide_eq_true hlim
  obtain ⟨v, rfl, hx⟩ := l.one
  obtain ⟨u, rfl, ru⟩ := vals1 r
  obtain ⟨a, kvs, rfl, rd, l1⟩ := hx.dctT fh
  cases ru
  obtain ⟨z, hs, ks, pr, o, es, ep, ho, hx', hdt, he, hn⟩ := (show ObjOk X.prog X.w H s.heap a (.dT kvs) from rd.ok I.hok)
  have les : es.size = ks.length := size_of_entries he
  have lkk : kvs.length = ks.length := Paired.length pr
  have lps : kvs.length = ps.length := l1.len
  have efst := l1.fst
  refine Calls.call_function_entry PyProof.Rows.kind_sorted PyProof.Rows.plain_sorted PyProof.Rows.entry_sorted (PyProof.Rows.args_sorted1 _) ?_
  unfold Builtin.«sorted»
  refine wpAny_bind (m := checkCount "sorted" 1 1 _) (wpAny_pure ?_)
  have hsz : ps.length ≤ sizeLine := lim_line hlim
  refine wpAny_bind (PySem.W.kdu_collect (A := X.A.in1) (kdl_raw hs hx' hdt) (I.ok.hd hc) ho (by rw [les, ← lkk, lps]; exact hsz) fun h' tk acc hk hacc => ?_)
  have ea : acc.toList = (ks.map fun x => x.2.1).map Value.ref := by
    have hl : acc.toList.length = ks.length := by rw [Array.length_toList, hacc.1]; exact les
    apply List.ext_getElem?
    intro j
    rw [List.getElem?_map, List.getElem?_map]
    cases hj : acc.toList[j]? with
    | none =>
      have h1 := List.getElem?_eq_none_iff.mp hj
      rw [List.getElem?_eq_none (by omega)]; rfl
    | some v =>
      obtain ⟨en, hen, hv⟩ := hacc.2 j v (by rw [← Array.getElem?_toList]; exact hj)
      have qe := entry_at he j
      rw [hen] at qe
      cases hb : ks[j]? with
      | none => rw [hb] at qe; cases qe
      | some b =>
        rw [hb] at qe
        have e2 : en = entryOfKey (tupleKind (mixKind X.prog X.w)) b := Option.some.inj qe
        rw [hv, e2]; rfl
  rw [ea]
  generalize has : ks.map (fun x => x.2.1) = as at ea ⊢
  have las : as.length = ps.length := by rw [← has, List.length_map, ← lkk, lps]
  have I1 : Inv X pins σ H { s with heap := h', toks := tk } := I.kept hk
  refine wpAny_bind (wpAny_newList ?_ (by rw [List.length_map, las]; exact hsz))
  -- the keys stand
  have at_ : ∀ (j : Nat) (b : Addr) (dd : D), as[j]? = some b → (ps.map (·.1))[j]? = some dd → ∃ kk : List Key, H b = some (.tup (kk.map kV)) ∧ dd = .tup (kk.map keyD) := by
    intro j b dd hj hdd
    rw [← has, List.getElem?_map] at hj
    cases hb : ks[j]? with
    | none => rw [hb] at hj; cases hj
    | some q =>
      rw [hb] at hj; cases hj
      obtain ⟨p, hp, e1, e2, _⟩ := paired_get pr hb
      rw [efst, List.getElem?_map, hp] at hdd
      cases hdd
      exact ⟨p.1, e2, rfl⟩
  have hoL : (h'.push (seqObj "list" (as.map Value.ref).toArray 0)).get? h'.objs.size = some (seqObj "list" (as.map Value.ref).toArray 0) := Heap.get?_push_size _ rfl
  show wpAny _ _ _ _ _ { s with heap := h'.push (seqObj "list" (as.map Value.ref).toArray 0), toks := tk }
  generalize hh2 : h'.push (seqObj "list" (as.map Value.ref).toArray 0) = h2 at hoL ⊢
  have ka : ∀ b o, h'.get? b = some o → h2.get? b = some o := fun b o e => by rw [← hh2]; exact Heap.get?_push_of_some _ e
  have I2 : ∀ b kk, H b = some (.tup (kk : List V)) → ∃ its, Vals kk its ∧ IsTup h2 b its.toArray := fun b kk hb => by
    obtain ⟨_, its, vr, t⟩ := I1.hok _ _ hb
    obtain ⟨ob, h1, r⟩ := t
    exact ⟨its, vr, ob, ka _ _ h1, r⟩
  have fr : ∀ b, (∃ xs, H b = some (.tup xs)) → b ≠ h'.objs.size := fun b ⟨xs, hb⟩ e => by
    have : b < h'.objs.size := I1.hok.lt hb
    exact absurd e (Nat.ne_of_lt this)
  have hlen : as.length = (ps.map (·.1)).length := by rw [List.length_map]; exact las
  have e1 : EachIs (fun u d => ∃ (j : Nat) (b : Addr), u = Value.ref b ∧ as[j]? = some b ∧ (ps.map (·.1))[j]? = some d) (as.map Value.ref) (ps.map (·.1)) := each_ix (by rw [List.length_map]; exact hlen) fun j u dd hu hdd => by
    rw [List.getElem?_map] at hu
    cases hj : as[j]? with
    | none => rw [hj] at hu; cases hu
    | some b => rw [hj] at hu; cases hu; exact ⟨j, b, rfl, hj, hdd⟩
  have er : EachIs (fun u d => ∃ as', Reads h2 u d.py as' ∧ h'.objs.size ∉ as') (as.map Value.ref) (ps.map (·.1)) := each_ix (by rw [List.length_map]; exact hlen) fun j u dd hu hdd => by
    rw [List.getElem?_map] at hu
    cases hj : as[j]? with
    | none => rw [hj] at hu; cases hu
    | some b =>
      rw [hj] at hu; cases hu
      obtain ⟨kk, hb, rfl⟩ := at_ j b _ hj hdd
      obtain ⟨its, vr, ob, h1, h2', n, h3⟩ := I2 b _ hb
      have rds : ∀ {kk : List Key} {its : List Value}, Vals (kk.map kV) its → ReadsAll h2 its (D.pys (kk.map keyD)) [] := by
        intro kk
        induction kk with
        | nil => intro its r; cases r; exact .nil
        | cons q kk ih =>
          intro its r
          cases r with
          | cons r rs =>
            refine .cons (as := []) (bs := []) ?_ (ih rs)
            cases q with
            | inl i => obtain ⟨t, rfl⟩ := (show ∃ t, _ = Value.int i t from r); exact .int i t
            | inr x => obtain ⟨t, rfl⟩ := (show ∃ t, _ = Value.str x t from r); exact .str x t
      exact ⟨[], .tuple h1 h2' h3 (by simpa using rds vr), by simp⟩
  have dp : ∀ d ∈ ps.map (·.1), d.py.depth ≤ 60 := fun d hd => (sh_py 60 d (List.all_eq_true.mp hsh d hd)).2
  have al : PySem.W.AllAlike ((ps.map (·.1)).map D.py) := fun x hx y hy => by
    obtain ⟨x', hx', rfl⟩ := List.mem_map.mp hx
    obtain ⟨y', hy', rfl⟩ := List.mem_map.mp hy
    exact List.all_eq_true.mp (List.all_eq_true.mp hal x' hx') y' hy'
  have so : PySem.W.Sortable ((ps.map (·.1)).map D.py) := by
    rcases Bool.or_eq_true_iff.mp hso with h | h
    · left
      intro x hx
      obtain ⟨d, hd, rfl⟩ := List.mem_map.mp hx
      have := List.all_eq_true.mp h d hd
      split at this
      · exact ⟨_, _, rfl⟩
      · cases this
    · right
      intro x hx
      obtain ⟨d, hd, rfl⟩ := List.mem_map.mp hx
      have := List.all_eq_true.mp h d hd
      split at this
      · exact ⟨fun z => (nomatch z), fun _ z => (nomatch z)⟩
      · exact ⟨fun z => (nomatch z), fun _ z => (nomatch z)⟩
      · cases this
  have hn0 : H h'.objs.size = none := I1.hok.fresh (Nat.le_refl _)
  refine wpAny_bind (wpAny_holding (wpAny_mono (PySem.W.list_sort_data (s := { s with heap := h2, toks := tk }) (bs := ps.map (·.1)) (enc := D.py) hoL e1 er al so (by rw [List.length_map]; exact hsz) (fun d hd => by have := dp d hd; show X.A.units + 1 + 1 + _ < _; omega)
    (Q := fun _ s' => ∃ x H', Inv X pins σ H' s' ∧ RelV x (Value.ref h'.objs.size) ∧ Q x H') fun out ho eo => ?_) (fun _ s' x => ?_) fun _ _ e => e))
  · obtain ⟨c, hcc⟩ := PyProof.Rows.sortedHeap_at (vs := as.map Value.ref) (out := out.toArray) hoL
    have kF : ∀ b o, b ≠ h'.objs.size → h2.get? b = some o → (sortedHeap h2 h'.objs.size (as.map Value.ref) out.toArray).get? b = some o := fun b o hb e => (PyProof.Rows.sortedHeap_old hb (Heap.lt_size e)).trans e
    have kS : ∀ b o, h'.get? b = some o → (sortedHeap h2 h'.objs.size (as.map Value.ref) out.toArray).get? b = some o := fun b o e => kF b o (Nat.ne_of_lt (Heap.lt_size e)) (ka b o e)
    have refs : ∀ {out : List Value} {ds : List D}, EachIs (fun u d => ∃ (j : Nat) (b : Addr), u = Value.ref b ∧ as[j]? = some b ∧ (ps.map (·.1))[j]? = some d) out ds → ∃ bs : List Addr, out = bs.map Value.ref ∧ EachIs (fun b d => ∃ j : Nat, as[j]? = some b ∧ (ps.map (·.1))[j]? = some d) bs ds := by
      intro out ds h
      induction h with
      | nil => exact ⟨[], rfl, .nil⟩
      | cons h _ ih =>
        obtain ⟨j, b, rfl, h1, h2⟩ := h
        obtain ⟨bs, rfl, e⟩ := ih
        exact ⟨b :: bs, rfl, .cons ⟨j, h1, h2⟩ e⟩
    obtain ⟨bs, rfl, eb⟩ := refs eo
    rw [List.length_map] at ho
    have IL : Inv X pins σ (upd H h'.objs.size (.lst (bs.map V.ref))) { s with heap := sortedHeap h2 h'.objs.size (as.map Value.ref) (bs.map Value.ref).toArray, toks := tk } :=
      I1.laid (t' := tk) kS (Nat.le_refl _) ⟨by rw [List.length_map, ho, List.length_map]; exact hsz, bs.map Value.ref, c, vals_refs bs, hcc⟩
    have hF2 : ∃ F2 : Hp, Ext F H F2 (upd H h'.objs.size (.lst (bs.map V.ref))) ∧ (∀ b ∈ as, (∃ xs, H b = some (.tup xs)) → F2 b = H b) ∧ F2 h'.objs.size = some (.lst (bs.map V.ref)) := by
      refine ⟨fun b => if b = h'.objs.size then some (.lst (bs.map V.ref)) else if b ∈ as then H b else F b, ⟨fun b o e => ?_, fun b o e => ?_, same_upd hn0, fun b o e n => ?_⟩, fun b hb ht => ?_, if_pos rfl⟩
      · have hb : b ≠ h'.objs.size := fun q => by subst q; have := fh _ _ e; rw [hn0] at this; cases this
        show (if b = h'.objs.size then _ else if b ∈ as then H b else F b) = some o
        rw [if_neg hb]
        split
        · exact fh b o e
        · exact e
      · have e : (if b = h'.objs.size then some (HO.lst (bs.map V.ref)) else if b ∈ as then H b else F b) = some o := e
        split at e
        · rename_i q; rw [q, upd_same]; exact e
        · rename_i q
          rw [upd_ne q]
          split at e
          · exact e
          · exact fh b o e
      · have e : (if b = h'.objs.size then some (HO.lst (bs.map V.ref)) else if b ∈ as then H b else F b) = some o := e
        split at e
        · rename_i q; rw [q]; exact .inl hn0
        · split at e
          · rename_i hb
            right
            obtain ⟨j, hj⟩ := List.mem_iff_getElem?.mp hb
            have hjl : j < (ps.map (·.1)).length := by rw [← hlen]; exact (List.getElem?_eq_some_iff.mp hj).1
            obtain ⟨kk, hh, _⟩ := at_ j b _ hj (List.getElem?_eq_getElem hjl)
            rw [hh] at e; cases e; exact ⟨_, rfl⟩
          · rw [n] at e; cases e
      · show (if b = h'.objs.size then _ else if b ∈ as then H b else F b) = H b
        rw [if_neg (fr b ht), if_pos hb]
    obtain ⟨F2, x2, f2, fL⟩ := hF2
    have dats : ∀ (j : Nat) (b : Addr) (dd : D), as[j]? = some b → (ps.map (·.1))[j]? = some dd → Dat X.kw X.mg F2 (.ref b) dd := by
      intro j b dd hj hdd
      obtain ⟨kk, hh, rfl⟩ := at_ j b dd hj hdd
      exact .tup ((f2 b (List.mem_of_getElem? hj) ⟨_, hh⟩).trans hh) (keysD_dat kk)
    have dl : DatL X.kw X.mg F2 (bs.map V.ref) (sortD (ps.map (·.1))) := by
      have go : ∀ {bs : List Addr} {ds : List D}, EachIs (fun b d => ∃ j : Nat, as[j]? = some b ∧ (ps.map (·.1))[j]? = some d) bs ds → DatL X.kw X.mg F2 (bs.map V.ref) ds := by
        intro bs ds h
        induction h with
        | nil => exact .nil
        | cons h _ ih => obtain ⟨j, h1, h2⟩ := h; exact .cons (dats j _ _ h1 h2) ih
      exact go eb
    exact ⟨.ref h'.objs.size, _, IL, rfl, k F2 _ _ x2 (.lst fL dl)⟩
  · exact wpAny_pure ⟨_, rfl, x⟩
end
end L2.Pv

set_option Elab.async false
set_option linter.all false
set_option maxRecDepth 100000
set_option maxHeartbeats 4000000
set_option autoImplicit false
/-! A new list by *; dict(pairs). -/
namespace L2.Pv
open PySem PySem.Spec PyProof.Rows

def rMf (K : KW) (mg : Str → Option Value) (g : D → D → Option D) : R2 := fun x y H Q => ∃ F dx dy d, Same F H ∧ DatB K mg F H x dx ∧ DatB K mg F H y dy ∧ g dx dy = some d ∧ ∀ F' H' a, Ext F H F' H' → F' a = none → H a = none → OwnAt K mg F' H' a d → Q (.ref a) H'
/-- a list so many times -/
def D.mulL (x y : D) : Option D := match x, y with
  | .lst xs, .int k => if decide (k < 0) || decide (1000 < k) || decide (1000 < xs.length) then none else some (.lst (List.replicate k.toNat xs).flatten)
  | _, _ => none
section
variable {X : Cx} {F0 H0 : Hp} {W : WX} {e a b : Expr} {es : List Expr} {ma mb me : EM} {pos : Pos}
theorem opf_mul : OpR X (binaryOp .Mult) (rMf X.kw X.mg D.mulL) := by
  intro pins s σ H x y v u Q I rx ry h
  obtain ⟨F, dx, dy, d, fh, hx, hy, e, k⟩ := h
  unfold D.mulL at e
  split at e
  · split at e
    · cases e
    · rename_i hc
      cases e
      obtain ⟨a, xs, rfl, h1, l1⟩ := hx.lst fh
      simp only [Bool.or_eq_true, decide_eq_true_eq, not_or, Nat.not_lt, Int.not_lt] at hc
      obtain ⟨⟨c2, c3⟩, c4⟩ := hc
      rw [← l1.len] at c4
      refine op_rep pins s σ H _ _ v u Q I rx ry ⟨a, _, xs, rfl, hy.int, h1, by omega, by omega, ?_, fun p n => k F _ p ⟨Same.refl F, fh.trans (same_upd n), same_upd n, fun a o e n => by rw [n] at e; cases e⟩ (fh.free n) n ⟨_, upd_same, l1.rep _⟩⟩
      exact lim_line (Nat.le_trans (Nat.mul_le_mul c4 (show _ ≤ 1000 by omega)) (by decide))
  · cases e
theorem fm_bin {op : Operator} {g : D → D → Option D} (ho : OpR X (binaryOp op) (rMf X.kw X.mg g)) (ha : PBm X F0 H0 W a ma) (hb : PBm X F0 H0 W b mb) : PFm X F0 H0 W (.BinOp a op b pos) (eOp g ma mb) := by
  refine PE.imp (pe_op ho ha hb) ?_
  rintro σ H Q ⟨F, ρ, r, h⟩
  refine ⟨F, ρ, r, h.bind.imp fun x h1 F1 H1 v x1 d1 => ?_⟩
  refine ⟨F1, ρ, r.ext x1, (h1.move x1).bind.imp fun y h2 F2 H2 w x2 d2 => ?_⟩
  obtain ⟨d, e, k⟩ := h2.of
  refine ⟨F2, x, y, d, x2.fh, d1.ext x2, d2, e, fun F3 H3 z x3 n1 n2 q => k F3 H3 z (x1.trans (x2.trans x3)) n1 ?_ q⟩
  cases e : H z with
  | none => rfl
  | some o => have := (x1.trans x2).hh z o e; rw [this] at n2; cases n2
/-- pairs whose keys are ints or texts -/
def prsD : List D → Option (List (D × D))
  | [] => some []
  | .tup [k, v] :: ds => if (D.key k).isSome then (prsD ds).map ((k, v) :: ·) else none
  | _ :: _ => none
def mrgD (ps qs : List (D × D)) : List (D × D) := qs.foldl (fun acc p => D.put acc p.1 p.2) ps
def bDictP : List D → Option D
  | [.lst ds] => (prsD ds).map fun ps => .dct false (mrgD [] ps)
  | _ => none
theorem prs_dat {K : KW} {mg : Str → Option Value} {F H : Hp} (fh : Same F H) : ∀ {ds : List D} {xs : List V} {ps : List (D × D)}, DatL K mg F xs ds → prsD ds = some ps →
    ∃ (as : List Addr) (kvs : List (Key × V)), xs = as.map V.ref ∧ Paired (fun p kv => SqT K.K H p [kV kv.1, kv.2]) as kvs ∧ DatK K mg F kvs ps
  | [], _, _, .nil, h => by
    cases h
    exact ⟨[], [], rfl, .nil, .nil⟩
  | d :: ds, v :: vs, ps, .cons hv l, h => by
    unfold prsD at h
    split at h
    · rename_i h0; cases h0
    · rename_i k w ds' h0
      cases h0
      split at h
      · rename_i hk
        obtain ⟨j, hj⟩ := Option.isSome_iff_exists.mp hk
        cases q : prsD ds with
        | none => rw [q] at h; cases h
        | some qs =>
          rw [q] at h
          cases h
          obtain ⟨as, kvs, rfl, hp, hd⟩ := prs_dat fh l q
          cases hv with
          | tup f1 l1 =>
            rename_i a xs
            cases l1 with
            | cons h1 l1 =>
              rename_i x xs
              cases l1 with
              | cons h2 l2 =>
                rename_i y ys
                cases l2
                have hx : x = kV j := by
                  cases h1 with
                  | int i => cases hj; rfl
                  | str i => cases hj; rfl
                  | _ => cases hj
                subst hx
                refine ⟨a :: as, (j, y) :: kvs, rfl, .cons (SqT.of (fh _ _ f1)) hp, ?_⟩
                rw [key_back hj]
                exact .cons h2 hd
      · cases h
    · cases h
theorem mrg_dat {K : KW} {mg : Str → Option Value} {F : Hp} : ∀ {more : List (Key × V)} {qs : List (D × D)} {kvs : List (Key × V)} {ps : List (D × D)}, DatK K mg F more qs → DatK K mg F kvs ps → DatK K mg F (mergeK kvs more) (mrgD ps qs)
  | _, _, _, _, .nil, l => l
  | _, _, kvs, ps, .cons (k := k) h m, l => by
    have w := mrg_dat m (l.put (k := keyD k) (j := k) (by cases k <;> rfl) h)
    exact w
theorem cf_dictP (hc : X.calm = true) : CallF X (.type "dict") bDictP := by
  rintro pins s σ H xs us Q I r ⟨F, ds, d, fh, l, e, k⟩
  unfold bDictP at e
  split at e
  · rename_i ds
    cases q : prsD ds with
    | none => rw [q] at e; cases e
    | some ps =>
      rw [q] at e
      cases e
      obtain ⟨v, rfl, hx⟩ := l.one
      obtain ⟨a, xs, rfl, h1, l1⟩ := hx.lst fh
      obtain ⟨as, kvs, rfl, hp, hd⟩ := prs_dat fh l1 q
      exact call_dictP hc pins s σ H _ us Q I r ⟨a, as, kvs, rfl, SqL.of h1, hp, fun p n => k F _ p ⟨Same.refl F, fh.trans (same_upd n), same_upd n, fun a o e n => by rw [n] at e; cases e⟩ (fh.free n) n ⟨_, upd_same, mrg_dat hd .nil⟩⟩
  · cases e
/-! ### x[k] += y of a list -/
theorem pget_list : PGet X (fun x y H Q => ∃ p xs i v, x = .ref p ∧ y = .int i ∧ 0 ≤ i ∧ SqL X.K H p xs ∧ atI xs i = some v ∧ Q v H) := by
  intro pins s σ H o i ov iv Q I ro ri h
  obtain ⟨p, xs, i, z, rfl, rfl, h0, hq, he, q⟩ := h
  cases ro
  obtain ⟨t, rfl⟩ := ri
  obtain ⟨its, r, pl, hz⟩ := I.list hq
  obtain ⟨j, h1, h2, h3, h4, h5⟩ := atI_get he
  obtain ⟨w, ew, rw'⟩ := r.get h2
  have hl := r.length
  have hn := line63
  have hj : i.toNat = j := by
    rw [seqIndex_of h0 h5] at h1
    exact Option.some.inj h1
  exact wpAny_getItem_list (x := w) pl.isList h0 (by omega) (by rw [hj]; simpa using ew) ⟨z, H, I, rw', q⟩
def D.getN (x k : D) : Option D := match x, k with
  | .lst ds, .int j => if 0 ≤ j then atI ds j else none
  | _, _ => none
def sAugS (i : Nat) (mk me : EM) : SM := fun ρ => match slAt ρ i with
  | some (.own o) => (mk ρ).out ρ fun k => match D.getN o k with
    | some x => (me ρ).out ρ fun y => match D.addI x y with
      | some z => match D.setAt o k z with
        | some o' => .nx (ρ.set i (some (.own o')))
        | none => .no
      | none => .no
    | none => .no
  | _ => .no
theorem sm_augS {i : Nat} {x : Str} {p1 p2 : Pos} (hu : X.A.units + 65 < cLine) (hk : PBm X F0 H0 W b mb) (he : PBm X F0 H0 W e me) (hN : X.N[i]? = some x := by rfl) (hv : Vis X.env.scope x := by first | exact Or.inl rfl | exact Or.inr (Or.inl rfl) | exact Or.inr (Or.inr rfl)) (hd : (x == ("__debug__" : Str)) = false := by decide) (hcd : (x == ("__classdict__" : Str)) = false := by decide)
    (ha : ∀ ov iv new, augStore b ov iv new = (do holding [new, ov, iv] (setItem ov iv new); release [new, ov, iv] []; pure .next) := by intros; rfl) :
    PSm X F0 H0 W (.AugAssign (.Subscript (.Name x p1) b p2) .Add e pos) (sAugS i mb me) := by
  refine PS.imp (ps_augS (pe_var hN hv hd hcd) hk pget_list he (ipm_addI : PIpM X .Add D.addI) (set_any hu) ha) fun En σ H ⟨F, ρ, r, h⟩ => ?_
  unfold sAugS at h
  split at h
  · rename_i od e0
    obtain ⟨ov, hσ, a, rfl, n, oo⟩ := r.sl i _ (slAt_some e0)
    refine ⟨_, hσ, F, ρ, r, (OutOk.got r h).imp fun kd k1 F1 H1 kv x1 d1 => ?_⟩
    cases z1 : D.getN od kd with
    | none => rw [z1] at k1; exact False.elim k1
    | some xd =>
      rw [z1] at k1
      obtain ⟨ov1, hσ1, a1, ea1, n1, oo1⟩ := (r.ext x1).sl i _ (slAt_some e0)
      rw [hσ] at hσ1; cases hσ1; cases ea1
      unfold D.getN at z1
      split at z1
      · rename_i ds j
        split at z1
        · rename_i h0
          obtain ⟨xs, hx, l⟩ := oo1
          obtain ⟨w, h2, h3⟩ := atI_dat l z1
          refine ⟨a, xs, j, w, rfl, d1.int, h0, SqL.of hx, h2, F1, ρ, r.ext x1, (OutOk.got (r.ext x1) k1).imp fun yd k2 F2 H2 yv x2 d2 => ?_⟩
          cases z2 : D.addI xd yd with
          | none => rw [z2] at k2; exact False.elim k2
          | some zd =>
            rw [z2] at k2
            dsimp only at k2
            refine ⟨F2, xd, yd, zd, x2.fh, .inl (h3.mono x2.ff), d2, z2, fun F3 H3 zv x3 d3 => ?_⟩
            cases z3 : D.setAt (.lst ds) (.int j) zd with
            | none => rw [z3] at k2; exact False.elim k2
            | some o' =>
              rw [z3] at k2
              have xx := (x1.trans x2).trans x3
              obtain ⟨ov3, hσ3, a3, ea3, n3, oo3⟩ := (r.ext xx).sl i _ (slAt_some e0)
              rw [hσ] at hσ3; cases hσ3; cases ea3
              refine ⟨F3, a, .lst ds, .int j, zd, o', rfl, x3.fh, n3, oo3, ?_, d3, z3, fun u o => k2 F3 σ _ ((r.ext xx).write (slAt_some e0) hσ o)⟩
              rw [d1.int]; exact .inl (.int j)
        · cases z1
      · cases z1
  · exact False.elim h
end
end L2.Pv
/-! len(set(xs)) of ints, all unlike -/
namespace L2.Pv
open PySem PySem.Spec PyProof.Rows
section
variable {X : Cx} {F0 H0 : Hp} {W : WX} {a : Expr} {ma : EM} {pos : Pos}
def eLenSet (ma : EM) : EM := fun ρ => (ma ρ).bind fun d => match d with
  | .lst ds => match D.ints ds with
    | some ns => if decide ns.Nodup && decide (ns.length ≤ 1000) then .ok (.int (ns.length : Nat)) else .no
    | none => .no
  | _ => .no
theorem em_lenSet {p p2 q : Pos} (hc : X.calm = true) (hg : Gl X "len") (hm : X.mg "len" = none) (hg2 : Gl X "set") (hm2 : X.mg "set" = none) (ha : PBm X F0 H0 W a ma)
    (na : starEach [a] X.env = (false, eval a X.env) :: starEach [] X.env := by rfl) : PEm X F0 H0 W (.Call (.Name "len" p) [.Call (.Name "set" p2) [a] [] q] [] pos) (eLenSet ma) := by
  refine PE.imp (RZ.pe_lenSetI hg hm hg2 hm2 ha hc na) fun σ H Q ⟨F, ρ, r, g⟩ => ?_
  refine ⟨F, ρ, r, g.bind.imp fun d k F1 H1 v x1 d1 => ?_⟩
  split at k
  · rename_i ds
    split at k
    · rename_i ns hn
      by_cases hj : (decide ns.Nodup && decide (ns.length ≤ 1000)) = true
      · rw [if_pos hj] at k
        simp only [Bool.and_eq_true, decide_eq_true_eq] at hj
        obtain ⟨l, xs, rfl, h1, l1⟩ := d1.lst x1.fh
        have e := ints_V l1 hn
        subst e
        exact ⟨l, ns, rfl, SqL.of h1, hj.1, by omega, k F1 H1 _ x1 (.int _)⟩
      · rw [if_neg hj] at k; exact False.elim k
    · exact False.elim k
  · exact False.elim k
end
end L2.Pv

set_option Elab.async false
set_option linter.all false
set_option maxRecDepth 100000
set_option maxHeartbeats 4000000
set_option autoImplicit false
/-! zip of two lists. -/
namespace L2.Pv
open PySem PySem.Spec PyProof.Rows

def zipL (xs ys : List D) : List D := (xs.zip ys).map fun p => .tup [p.1, p.2]
def zipD : List D → Option (List D)
  | [.lst xs, .lst ys] => some (zipL xs ys)
  | _ => none
def iZp (ms : List EM) : AM := fun ρ => (aAll ms ρ).bind fun ds => R.of (zipD ds)
section
variable {X : Cx} {F0 H0 : Hp} {W : WX} {e e2 : Expr} {ma mb : EM} {pos : Pos}
theorem zip_new {K : KW} {mg : Str → Option Value} {F1 H1 H3 : Hp} {x y z : V} {d d' : D} {T : Addr} (s2 : Same F1 H1) (dv : Dat K mg F1 y d) (dw : Dat K mg F1 z d') (hn : H1 T = none) (e : H3 = upd H1 T (.tup [y, z])) (ex : x = .ref T) :
    ∃ F3, Ext F1 H1 F3 H3 ∧ Dat K mg F3 x (.tup [d, d']) := by
  subst e ex
  exact ⟨_, Ext.new s2 hn, .tup upd_same (.cons (dv.mono (same_upd (s2.free hn))) (.cons (dw.mono (same_upd (s2.free hn))) .nil))⟩
theorem zip_okL {K : KW} {mg : Str → Option Value} {F : Hp} {a b : Addr} {xs ys : List V} {ds es : List D} (h : ∀ F1 H1, Same F F1 → Same F1 H1 → SqL K.K H1 a xs) (h' : ∀ F1 H1, Same F F1 → Same F1 H1 → SqL K.K H1 b ys) (l : DatL K mg F xs ds) (l' : DatL K mg F ys es) : ItOk K mg F (Itz K.K a b) (zipL ds es) := fun i F1 H1 s1 s2 => by
  have q := h F1 H1 s1 s2
  have q' := h' F1 H1 s1 s2
  refine ⟨fun d hd => ?_, fun hl => ⟨xs, ys, q, q', ?_⟩⟩
  · unfold zipL at hd
    rw [List.getElem?_map] at hd
    cases hz : (ds.zip es)[i]? with
    | none => rw [hz] at hd; cases hd
    | some p =>
      rw [hz] at hd; cases hd
      have hz2 := List.getElem?_zip_eq_some.mp hz
      obtain ⟨v, hv, dv⟩ := l.getD hz2.1
      obtain ⟨w, hw, dw⟩ := l'.getD hz2.2
      refine ⟨⟨xs, ys, v, w, q, q', hv, hw⟩, fun x H3 ⟨T, y, y', ex, hn, eH, z, z'⟩ => ?_⟩
      have z := z xs q
      have z' := z' ys q'
      rw [hv] at z; cases z
      rw [hw] at z'; cases z'
      exact zip_new s2 (dv.mono s1) (dw.mono s1) hn eH ex
  · unfold zipL at hl
    rw [List.length_map, List.length_zip] at hl
    rw [l.len, l'.len]
    omega
theorem im_zip {p tpos : Pos} {elts : List Expr} {kk : Nat} (hg : Gl X "zip") (hm : X.mg "zip" = none) (he : PEm X F0 H0 W e ma) (he2 : PEm X F0 H0 W e2 mb)
    (hs0 : starEach [e, e2] X.env = (false, eval e X.env) :: starEach [e2] X.env := by rfl) (hs1 : starEach [e2] X.env = (false, eval e2 X.env) :: starEach [] X.env := by rfl) (hpl : (backTo pos (starEach [e2] X.env)).any (·.1) = false := by rfl) :
    PIm X F0 H0 W (.Tuple elts kk tpos) (.Call (.Name "zip" p) [e, e2] [] pos) (iZp [ma, mb]) := by
  refine PI.imp (pi_zip hg hm (am_cons he (am_cons he2 am_nil hs1) hs0) hs0 hpl) fun σ H R ⟨F, ρ, r, g⟩ => ?_
  refine ⟨F, ρ, r, g.bind.imp fun ds k F' H' vs x l => ?_⟩
  obtain ⟨es, e, k⟩ := k.of
  unfold zipD at e
  split at e
  · rename_i xs ys
    cases e
    cases l with
    | cons h1 l =>
      cases l with
      | cons h2 l =>
        cases l
        cases h1 with
        | lst f1 l1 =>
          cases h2 with
          | lst f2 l2 =>
            exact ⟨_, _, _, _, rfl, SqL.of (x.fh _ _ f1), SqL.of (x.fh _ _ f2), k F' H' _ x (zip_okL (fun F1 H1 s1 s2 => SqL.of (s2 _ _ (s1 _ _ f1))) (fun F1 H1 s1 s2 => SqL.of (s2 _ _ (s1 _ _ f2))) l1 l2)⟩
  · cases e
end
end L2.Pv

set_option Elab.async false
set_option linter.all false
set_option maxRecDepth 100000
set_option maxHeartbeats 4000000
set_option autoImplicit false
/-! A list unpacked. -/
namespace L2.Pv
open PySem PySem.Spec PyProof.Rows

def gLstM (is : List Nat) : GM := fun ρ d => match d with
  | .lst ds => if ds.length = is.length then some (setAll ρ is ds) else none
  | _ => none
section
variable {K : KW} {mg : Str → Option Value} {F0 H0 : Hp}
theorem gok_lst (is : List Nat) {n : Nat} (hn : is.length = n := by rfl) : GOk K mg F0 H0 (gUnl K n (gsN is)) is (gLstM is) := fun F σ H ρ ρ1 v d Q r q e k => by
  unfold gLstM at e
  split at e
  · split at e
    · rename_i ds hl
      cases e
      cases q with
      | @lst a xs _ h l => exact ⟨a, xs, rfl, SqL.of (r.fh _ _ h), by rw [l.len, hl, hn], gsN_ok is F σ H ρ xs ds Q hl r l k⟩
    · cases e
  · cases e
end
@[simp] theorem x_lstM (ρ : Env) (is : List Nat) (ds : List D) : gLstM is ρ (.lst ds) = if ds.length = is.length then some (setAll ρ is ds) else none := nr rfl
end L2.Pv

set_option Elab.async false
set_option linter.all false
set_option maxRecDepth 100000
set_option maxHeartbeats 4000000
set_option autoImplicit false
/-! Dicts compared. -/
namespace L2.Pv
open PySem PySem.Spec PyProof.Rows

/-- whether each pair of ps stands in qs -/
def hitsK (qs : List (D × D)) : List (D × D) → Bool
  | [] => true
  | p :: r => match D.find p.1 qs with
    | none => false
    | some u => D.eqb p.2 u && hitsK qs r
def D.neK (x y : D) : Option D := match x, y with
  | .dct false ps, .dct false qs => if (ps.all fun p => SeqAt.shaped p.2.py) && (qs.all fun p => SeqAt.shaped p.2.py) then some (.bl (!(ps.length == qs.length && hitsK qs ps))) else none
  | _, _ => none
section
variable {X : Cx}
theorem find_mem {x u : D} : ∀ {qs : List (D × D)}, D.find x qs = some u → ∃ k, (k, u) ∈ qs
  | [], h => by cases h
  | p :: r, h => by
    unfold D.find at h
    split at h
    · cases h; exact ⟨p.1, List.mem_cons_self⟩
    · obtain ⟨k, hk⟩ := find_mem h
      exact ⟨k, List.mem_cons_of_mem _ hk⟩
theorem hits_ok {pins : List (Addr × Obj)} {σ : St} {H F : Hp} {s : Shared} (I : Inv X pins σ H s) (fh : Same F H) {A : Around} (hu : A.in1.units + 64 < cLine) {ls : List (Key × V)} {vb : List (Key × Value)} (rb : KV ls vb) {qs : List (D × D)} (lq : DatK X.kw X.mg F ls qs) (sq : ∀ p ∈ qs, SeqAt.shaped p.2.py = true) :
    ∀ {ks : List (Key × V)} {va : List (Key × Value)} {ps : List (D × D)}, KV ks va → DatK X.kw X.mg F ks ps → (∀ p ∈ ps, SeqAt.shaped p.2.py = true) → PySem.W.KeqHits A.in1 s vb va (hitsK qs ps) := by
  intro ks va ps ra lp
  unfold KV at ra
  induction ra generalizing ps with
  | nil => intro _; cases lp; exact .nil
  | @cons p q r rs h t ih =>
    intro sp
    obtain ⟨k, v⟩ := p
    obtain ⟨k', u⟩ := q
    obtain ⟨h1, h2⟩ := h
    have h1 : k = k' := h1
    subst h1
    cases lp with
    | @cons _ _ _ d ds hv lr =>
      have ih := ih lr fun p hp => sp p (List.mem_cons_of_mem _ hp)
      have rr := rb.val k
      have hk : D.key (keyD k) = some k := by cases k <;> rfl
      unfold hitsK
      dsimp only
      rcases find_K hk lq with ⟨e1, e2⟩ | ⟨v', d', e1, e2, e3⟩
      · rw [e2]
        rw [e1] at rr
        exact .miss rr.none_of
      · rw [e2]
        rw [e1] at rr
        obtain ⟨y, hy, ry⟩ := rr.some_of
        obtain ⟨kq, hq⟩ := find_mem e2
        have s1 := sp (keyD k, d) List.mem_cons_self
        have s2 := sq (kq, d') hq
        obtain ⟨as, r1⟩ := Dp.reads I _ v u (DatB.dp fh (.inl hv) (SeqAt.canLay_of_shaped s1)) h2
        obtain ⟨bs, r2⟩ := Dp.reads I _ v' y (DatB.dp fh (.inl e3) (SeqAt.canLay_of_shaped s2)) ry
        exact .hit hy (PySem.W.keq_at r1 r2 s1 s2 hu) ih
theorem opm_neK (hu : X.A.units + 65 < cLine) : OpM X (compareOp .NotEq) D.neK := by
  intro pins s σ H x y v u Q I rx ry h
  obtain ⟨F, dx, dy, d, fh, hx, hy, e, k⟩ := h
  unfold D.neK at e
  split at e
  · rename_i ps qs
    split at e
    · rename_i hc
      cases e
      obtain ⟨c1, c2⟩ := Bool.and_eq_true_iff.mp hc
      rw [List.all_eq_true] at c1 c2
      obtain ⟨a, ks, rfl, ha, la⟩ := hx.dctK fh
      obtain ⟨b, ls, rfl, hb, lb⟩ := hy.dctK fh
      cases rx
      cases ry
      obtain ⟨_, ya, va, ra, da⟩ := dk_rd I.hok ha
      obtain ⟨_, yb, vb, rb, db⟩ := dk_rd I.hok hb
      have hits := hits_ok I fh (A := X.A) (by show X.A.units + 1 + 64 < cLine; omega) rb lb c2 ra la c1
      refine PySem.W.keq_ne (knd := mixKind X.prog X.w) (r := hitsK qs ps) ya yb da db (by omega) (fun _ => hits) ⟨.bl _, H, I, rfl, ?_⟩
      have e1 : va.length = ps.length := by rw [← ra.length, la.len]
      have e2 : vb.length = qs.length := by rw [← rb.length, lb.len]
      rw [e1, e2]
      exact k F H _ (Ext.refl fh) (.bl _)
    · cases e
  · cases e
end
@[simp] theorem d_neK (ps qs : List (D × D)) : D.neK (.dct false ps) (.dct false qs) = if (ps.all fun p => SeqAt.shaped p.2.py) && (qs.all fun p => SeqAt.shaped p.2.py) then some (.bl (!(ps.length == qs.length && hitsK qs ps))) else none := nr rfl
end L2.Pv

set_option Elab.async false
set_option linter.all false
set_option maxRecDepth 100000
set_option maxHeartbeats 4000000
set_option autoImplicit false
/-! [::-1] of lists and tuples. -/
namespace L2.Pv
open PySem PySem.Spec PyProof.Rows
open HT

section
variable {prog : Program} {w : World} {A : Around} {E : Value → Shared → Prop} {s : Shared}
theorem adjust_rev (n : Nat) : Builtin.Slice.sliceAdjust none none (-1) (n : Int) = ((n : Int) - 1, -1) := by
  unfold Builtin.Slice.sliceAdjust
  simp
theorem places_rev (n : Nat) : Builtin.Slice.slicePlaces ((n : Int) - 1) (-1) (-1) = n := by
  unfold Builtin.Slice.slicePlaces
  simp
  omega
theorem sliceApplied_rev {sl : Addr} {vl vu vs : Value} {n : Nat} {Q : Int × Int × Nat → Shared → Prop} (hs : s.heap.IsSliceOf sl vl vu vs) (pl : IsPart vl none) (pu : IsPart vu none) (ps : IsPart vs (some (-1)))
    (h : Q ((n : Int) - 1, -1, n) s) : wpAny (model prog w) A (Builtin.Slice.sliceApplied (.ref sl) (pure (n : Int))) Q E s := by
  obtain ⟨os, hos, hcs, hds⟩ := id hs
  unfold Builtin.Slice.sliceApplied Builtin.Slice.sliceFields
  refine wpAny_bind (wpAny_bind (wpAny_field hos hds (x := vl) rfl (wpAny_bind (wpAny_field hos hds (x := vu) rfl (wpAny_bind (wpAny_field hos hds (x := vs) rfl (wpAny_pure ?_)))))))
  refine wpAny_bind (slicePart_ ps ?_)
  show wpAny _ _ (if ((-1 : Int) == 0) = true then _ else _) _ _ s
  rw [if_neg (by decide)]
  refine wpAny_bind (slicePart_ pl (wpAny_bind (slicePart_ pu (wpAny_bind (wpAny_pure ?_)))))
  show wpAny _ _ (match Builtin.Slice.sliceAdjust none none (-1) (n : Int) with | (lo, hi) => pure (lo, (-1 : Int), Builtin.Slice.slicePlaces lo hi (-1))) _ _ s
  rw [adjust_rev n]
  show wpAny _ _ (pure ((n : Int) - 1, (-1 : Int), Builtin.Slice.slicePlaces ((n : Int) - 1) (-1) (-1))) _ _ s
  rw [places_rev]
  exact wpAny_pure h
theorem pick_rev (xs : Array Value) : ((List.range xs.size).filterMap fun (m : Nat) => xs[((xs.size : Int) - 1 + (m : Int) * -1).toNat]?).toArray = xs.toList.reverse.toArray := by
  have e : (List.range xs.size).filterMap (fun (m : Nat) => xs[((xs.size : Int) - 1 + (m : Int) * -1).toNat]?) = ((List.range xs.size).map fun k => xs.size - 1 - k).filterMap (xs[·]?) := by
    rw [List.filterMap_map]
    have : ∀ l : List Nat, (∀ m ∈ l, m < xs.size) → l.filterMap (fun (m : Nat) => xs[((xs.size : Int) - 1 + (m : Int) * -1).toNat]?) = l.filterMap ((fun x => xs[x]?) ∘ fun k => xs.size - 1 - k) := fun l h => by
      induction l with
      | nil => rfl
      | cons m l ih =>
        have hm := h m List.mem_cons_self
        rw [List.filterMap_cons, List.filterMap_cons, ih fun x hx => h x (List.mem_cons_of_mem _ hx)]
        rw [show ((xs.size : Int) - 1 + (m : Int) * -1).toNat = xs.size - 1 - m from by omega]
        rfl
    exact this _ fun m h => List.mem_range.mp h
  rw [e, PySem.W.krv_range, List.filterMap_reverse, PySem.W.krv_all]
theorem getItem_tuple_rev {t sl : Addr} {items : Array Value} {vl vu vs : Value} {Q : Value → Shared → Prop} (ht : IsTup s.heap t items) (hs : s.heap.IsSliceOf sl vl vu vs) (pl : IsPart vl none) (pu : IsPart vu none) (ps : IsPart vs (some (-1)))
    (h : Q (.ref s.heap.objs.size) { s with heap := s.heap.push { cls := .type "tuple", data := .seq items.toList.reverse.toArray } })
    (hsz : items.size ≤ sizeLine) : wpAny (model prog w) A (getItem (.ref t) (.ref sl)) Q E s := by
  have htake : sizeOk (.seq items.toList.reverse.toArray) := by
    show items.toList.reverse.toArray.size ≤ sizeLine
    rw [List.size_toArray, List.length_reverse, Array.length_toList]
    exact hsz
  obtain ⟨os, hos, hcs, hds⟩ := id hs
  have hTs : s.TypeIs (.ref sl) "slice" := ⟨os, hos, hcs⟩
  unfold getItem
  try with_reducible refine wpAny_holding ?_
  first | refine wpAny_bind (wpAny_pure ?_) | skip
  refine wpAny_bind (wpAny_sequenceKey ht.typeIs (by decide) ?_)
  refine wpAny_bind (wpAny_callSpecial?_slot (name := Str.ofString "__getitem__") ht.typeIs PyProof.Rows.slot_tuple_getitem
    (wpAny_call_entry PyProof.Rows.slot_tuple_getitem ht.typeIs entry_tuple_getitem ?_ (args_tuple_getitem _ _)))
  show wpAny _ _ (Builtin.Tuple.tupleItemsOf (.ref t) >>= _) _ _ s
  refine wpAny_bind (tupleItemsOf_ ht ?_)
  refine wpAny_bind (wpAny_typeOf hTs ?_)
  rw [if_pos (by decide)]
  refine wpAny_bind (sliceApplied_rev hs pl pu ps ?_)
  have hno : ¬ ((((items.size : Int) - 1) == 0 && (-1 : Int) == 1 && items.size == items.size) = true) := by
    intro q
    rw [Bool.and_eq_true, Bool.and_eq_true] at q
    exact absurd q.1.2 (by decide)
  show wpAny _ _ (if (((items.size : Int) - 1) == 0 && (-1 : Int) == 1 && items.size == items.size) = true then _ else _) _ _ s
  rw [if_neg hno, pick_rev]
  first
    | exact wpAny_bind (m := Builtin.Tuple.tupleExact _) (wpAny_newObj_type (wpAny_pure ⟨_, rfl, wpAny_pure h⟩) htake)
    | exact wpAny_bind (m := Builtin.Tuple.tupleExact _) (wpAny_newObj_type (wpAny_bind (wpAny_pure (wpAny_pure ⟨_, rfl, wpAny_pure h⟩))) htake)
    | exact wpAny_bind (wpAny_bind (m := Builtin.Tuple.tupleExact _) (wpAny_newObj_type (wpAny_pure (wpAny_pure ⟨_, rfl, wpAny_pure h⟩)) htake))
    | exact wpAny_bind (wpAny_bind (m := Builtin.Tuple.tupleExact _) (wpAny_newObj_type (wpAny_pure ⟨_, rfl, wpAny_pure h⟩) htake))
end
section
variable {X : Cx} {F0 H0 : Hp} {W : WX} {e : Expr} {m : EM} {pos : Pos}
def tRevA (K : PySem.W.Frag) (te : TE) : TE := fun σ H Q => te σ H fun x H1 => ∃ a xs, x = .ref a ∧ ((SqL K H1 a xs ∧ ∀ p, H1 p = none → Q (.ref p) (upd H1 p (.lst xs.reverse))) ∨ (SqT K H1 a xs ∧ ∀ p, H1 p = none → Q (.ref p) (upd H1 p (.tup xs.reverse))))
theorem pe_revA {te : TE} {k : Nat} {p1 p2 p3 pos : Pos} (he : PE X e te) : PE X (.Subscript e (.Slice none none (some (.UnaryOp .USub (.Constant (.int 1) k p1) p2)) p3) pos) (tRevA X.K te) := by
  refine ⟨fun pins s σ H Q I h => ?_⟩
  refine Subscript_ (thn (he.run pins s σ H _ I h) fun v s1 ⟨x, H1, I1, r1, q1⟩ => ?_)
  obtain ⟨a, xs, ex, hx⟩ := q1
  subst ex
  cases r1
  have hst : PO X (some (.UnaryOp .USub (.Constant (.int 1) k p1) p2)) (tPart (tUn (rU fun i => .int (-i)) (tC (.int 1)))) := po_some (pe_un un_neg pe_int)
  refine wpAny_Slice (thn (po_none.run pins s1 σ H1 (fun o H2 => o = none ∧ H2 = H1) I1 ⟨rfl, rfl⟩) fun vl s2 ⟨l, H2, I2, pl, el, e2⟩ => ?_)
  subst el e2
  refine thn (po_none.run pins s2 σ H2 (fun o H3 => o = none ∧ H3 = H2) I2 ⟨rfl, rfl⟩) fun vu s3 ⟨u, H3, I3, pu, eu, e3⟩ => ?_
  subst eu e3
  refine thn (hst.run pins s3 σ H3 (fun o H4 => o = some (-1) ∧ H4 = H3) I3 ⟨1, rfl, -1, rfl, rfl, rfl⟩) fun vs s4 ⟨o, H4, I4, ps, eo, e4⟩ => ?_
  subst eo e4
  have I5 : Inv X pins σ H4 { s4 with heap := s4.heap.push { cls := .type "slice", data := .fields #[vl, vu, vs] } } := I4.kept (t' := s4.toks) fun b ob q => Heap.get?_push_of_some _ q
  show wpAny (model X.prog X.w) X.A (subscriptTail e (.Slice none none (some (.UnaryOp .USub (.Constant (.int 1) k p1) p2)) p3) (.ref a) (.ref s4.heap.objs.size)) (EP X pins σ Q) X.xe { s4 with heap := s4.heap.push { cls := .type "slice", data := .fields #[vl, vu, vs] } }
  rcases hx with ⟨hx, q⟩ | ⟨hx, q⟩
  · obtain ⟨its, r, ht, hz⟩ := I5.list hx
    have hlen := r.length
    refine tail_any (ops := [.ref a, .ref s4.heap.objs.size]) ht.isList.typeIs (PySem.slot_list_getitem.lookup) ?_ (by with_unfolding_all rfl)
    refine wpAny_getItem_list_slice ht.isList (Heap.IsSliceOf.new _ vl vu vs) pl pu ps (by decide) ?_ (by rw [List.size_toArray]; omega)
    rw [PySem.W.krv_pick]
    refine ⟨.ref _, _, I5.laid (t' := s4.toks) (o := .lst xs.reverse) (fun b ob q => Heap.get?_push_of_some _ q) (Nat.le_refl _) ?_, rfl, q _ (I5.hok.fresh (Nat.le_refl _))⟩
    exact ⟨by rw [List.length_reverse]; exact hz, _, 0, r.reverse, Heap.get?_push_size _ rfl⟩
  · obtain ⟨its, r, ht, hz⟩ := I5.tuple hx
    have hlen := r.length
    refine tail_any (ops := [.ref a, .ref s4.heap.objs.size]) ht.typeIs (PyProof.Rows.slot_tuple_getitem.lookup) ?_ (by with_unfolding_all rfl)
    refine getItem_tuple_rev ht (Heap.IsSliceOf.new _ vl vu vs) pl pu ps ?_ (by rw [List.size_toArray]; omega)
    refine ⟨.ref _, _, I5.laid (t' := s4.toks) (o := .tup xs.reverse) (fun b ob q => Heap.get?_push_of_some _ q) (Nat.le_refl _) ?_, rfl, q _ (I5.hok.fresh (Nat.le_refl _))⟩
    exact ⟨by rw [List.length_reverse]; exact hz, _, r.reverse, IsTup.new _ _⟩
def eRev (ma : EM) : EM := fun ρ => (ma ρ).bind fun d => match d with
  | .lst ds => .ok (.lst ds.reverse)
  | .tup ds => .ok (.tup ds.reverse)
  | _ => .no
theorem em_rev {k : Nat} {p1 p2 p3 : Pos} (he : PBm X F0 H0 W e m) : PEm X F0 H0 W (.Subscript e (.Slice none none (some (.UnaryOp .USub (.Constant (.int 1) k p1) p2)) p3) pos) (eRev m) := by
  refine PE.imp (pe_revA he) fun σ H Q ⟨F, ρ, r, g⟩ => ?_
  refine ⟨F, ρ, r, g.bind.imp fun d k F1 H1 v x b => ?_⟩
  cases d with
  | lst ds =>
    obtain ⟨a, xs, rfl, h, l⟩ := b.lst x.fh
    exact ⟨a, xs, rfl, .inl ⟨SqL.of h, lst_new x.fh l.rev fun F2 H2 v x2 q => k F2 H2 v (x.trans x2) q⟩⟩
  | tup ds =>
    obtain ⟨a, xs, rfl, h1, h, l⟩ := b.tup x.fh
    exact ⟨a, xs, rfl, .inr ⟨SqT.of h, tup_new x.fh l.rev fun F2 H2 v x2 q => k F2 H2 v (x.trans x2) q⟩⟩
  | _ => exact False.elim k
@[simp] theorem x_Rev (ma : EM) (ρ : Env) : eRev ma ρ = (ma ρ).bind fun d => match d with
  | .lst ds => .ok (.lst ds.reverse)
  | .tup ds => .ok (.tup ds.reverse)
  | _ => .no := nr rfl
end
end L2.Pv

set_option Elab.async false
set_option linter.all false
set_option maxRecDepth 100000
set_option maxHeartbeats 4000000
set_option autoImplicit false
/-! Dicts of the module with text keys: x in G, G[x], dict(G). -/
namespace L2.Pv
open PySem PySem.Spec PyProof.Rows

/-- a dict of the module -/
structure GDct (K : PySem.W.Frag) (w : World) (mg : Str → Option Value) (x : Str) (kvs : List (Str × He.Dv)) : Prop where
  ex : ∃ a es n, mg x = some (.ref a) ∧ KDict K w a es n ∧ es.toList.map He.keyOf = He.keysIn w.params (kvs.map (·.1)) ∧ ∀ q ∈ kvs, ∃ u, PySem.W.nsIn K a q.1 = some (some u) ∧ RelV (q.2.v K) u
  nd : (kvs.map (·.1)).Nodup
  ok : (kvs.all fun q => dvOk q.2) = true
theorem keyOf_some {e : DictEntry} {k : Str} {h : Int} (q : He.keyOf e = some (k, h)) : ∃ t, e.key = .str k t ∧ e.hash = h := by
  unfold He.keyOf at q
  split at q
  · rename_i x t z
    cases q
    exact ⟨t, z, rfl⟩
  · cases q
theorem keys_mem {P : Params} {l : List DictEntry} {ks : List Str} (h : l.map He.keyOf = He.keysIn P ks) {e : DictEntry} (he : e ∈ l) : ∃ k ∈ ks, ∃ t, e.key = .str k t := by
  have : He.keyOf e ∈ He.keysIn P ks := by rw [← h]; exact List.mem_map_of_mem he
  obtain ⟨k, hk, q⟩ := List.mem_map.mp this
  obtain ⟨t, z, _⟩ := keyOf_some q.symm
  exact ⟨k, hk, t, z⟩
theorem ns_none {K : PySem.W.Frag} {P : Params} {a : Addr} {es : Array DictEntry} {n : Nat} {ks : List Str} {z : Str} (hl : K.lookup a = some ⟨.type "dict", none, .dict es n, #[]⟩) (hk : es.toList.map He.keyOf = He.keysIn P ks) (hz : z ∉ ks) : PySem.W.nsIn K a z = some none := by
  unfold PySem.W.nsIn
  rw [hl]
  dsimp only
  have e1 : es.toList.find? (·.key.isStr z) = none := by
    rw [List.find?_eq_none]
    intro e he q
    obtain ⟨k, hk', t, ek⟩ := keys_mem hk he
    rw [ek] at q
    have : k = z := by simpa [Value.isStr] using q
    exact hz (this ▸ hk')
  have e2 : es.toList.any (·.refKey) = false := by
    rw [List.any_eq_false]
    intro e he q
    obtain ⟨k, _, t, ek⟩ := keys_mem hk he
    unfold DictEntry.refKey at q
    rw [ek] at q
    cases q
  rw [e1, e2]; rfl
theorem pairs_of {P : Program} {w : World} : ∀ {l : List DictEntry} {ks : List Str}, l.map He.keyOf = He.keysIn w.params ks → ∃ pv : List (Key × Value), pv.map (·.1) = ks.map Sum.inr ∧ PySem.Pairs (mixKind P w) l pv ∧ pv.map (·.2) = l.map (·.val)
  | [], [], _ => ⟨[], rfl, .nil, rfl⟩
  | [], _ :: _, h => by cases h
  | _ :: _, [], h => by cases h
  | e :: l, k :: ks, h => by
    injection h with h1 h2
    obtain ⟨t, q, _⟩ := keyOf_some h1
    obtain ⟨pv, a, b, c⟩ := pairs_of (P := P) h2
    refine ⟨(.inr k, e.val) :: pv, by rw [List.map_cons, List.map_cons, a], .cons ?_ rfl b, by rw [List.map_cons, List.map_cons, c]⟩
    show keyIs (.inr k) e.key = true
    rw [q]; exact keyIs_str k t
theorem kv_of {K : PySem.W.Frag} {P : Params} : ∀ {l : List DictEntry} {kvs : List (Str × He.Dv)} {pv : List (Key × Value)} (pre : List DictEntry), l.map He.keyOf = He.keysIn P (kvs.map (·.1)) → (kvs.map (·.1)).Nodup → (∀ e ∈ pre, ∀ k ∈ kvs.map (·.1), e.key.isStr k = false) → (∀ q ∈ kvs, ∃ e, (pre ++ l).find? (·.key.isStr q.1) = some e ∧ RelV (q.2.v K) e.val) →
    pv.map (·.1) = (kvs.map (·.1)).map Sum.inr → pv.map (·.2) = l.map (·.val) → KV (kvs.map fun q => ((Sum.inr q.1 : Key), q.2.v K)) pv
  | [], [], [], _, _, _, _, _, _, _ => .nil
  | _, [], _ :: _, _, _, _, _, _, h, _ => by cases h
  | _, _ :: _, [], _, _, _, _, _, h, _ => by cases h
  | _ :: _, [], [], _, h, _, _, _, _, _ => by cases h
  | [], _ :: _, _ :: _, _, h, _, _, _, _, _ => by cases h
  | e :: l, q :: kvs, p :: pv, pre, h, nd, hp, hf, h1, h2 => by
    injection h with k1 k2
    injection h1 with a1 a2
    injection h2 with b1 b2
    obtain ⟨n1, n2⟩ := List.nodup_cons.mp nd
    obtain ⟨t, ek, _⟩ := keyOf_some k1
    obtain ⟨e', f1, f2⟩ := hf q List.mem_cons_self
    have fe : (pre ++ e :: l).find? (·.key.isStr q.1) = some e := by
      rw [List.find?_append]
      have : pre.find? (·.key.isStr q.1) = none := by
        rw [List.find?_eq_none]
        intro x hx
        rw [hp x hx q.1 (by simp)]; simp
      rw [this, List.find?_cons]
      have : e.key.isStr q.1 = true := by rw [ek]; simp [Value.isStr]
      rw [this]; rfl
    rw [fe] at f1
    cases f1
    refine .cons ⟨a1.symm, by have b1 : p.2 = e.val := b1; rw [b1]; exact f2⟩ (kv_of (pre ++ [e]) k2 n2 (fun x hx k hk => ?_) (fun r hr => ?_) a2 b2)
    · rcases List.mem_append.mp hx with z | z
      · exact hp x z k (List.mem_cons_of_mem _ hk)
      · rw [List.mem_singleton.mp z, ek]
        have : q.1 ≠ k := fun y => n1 (by show q.1 ∈ _; rw [y]; exact hk)
        simpa [Value.isStr] using this
    · rw [List.append_assoc]
      exact hf r (List.mem_cons_of_mem _ hr)
section
variable {X : Cx} {F0 H0 : Hp} {W : WX} {e : Expr} {m : EM} {pos : Pos} {x : Str} {kvs : List (Str × He.Dv)}
theorem GDct.dict (G : GDct X.K X.w X.mg x kvs) {pins : List (Addr × Obj)} {σ : St} {H : Hp} {s : Shared} (I : Inv X pins σ H s) : ∃ a pv, X.mg x = some (.ref a) ∧ (a == sysModules) = false ∧ KV (kvs.map fun q => ((Sum.inr q.1 : Key), q.2.v X.K)) pv ∧ s.heap.DictOf (mixKind X.prog X.w) a pv := by
  obtain ⟨a, es, n, hm, D, hk, hv⟩ := G.ex
  obtain ⟨pv, p1, p2, p3⟩ := pairs_of (P := X.prog) hk
  refine ⟨a, pv, hm, D.low, kv_of [] hk G.nd (fun e he => by cases he) (fun q hq => ?_) p1 p3, _, es, n, I.kIn _ _ D.at_, ⟨rfl, rfl, rfl⟩, rfl, fun e he => ?_, p2, ?_⟩
  · obtain ⟨u, h1, h2⟩ := hv q hq
    unfold PySem.W.nsIn at h1
    rw [D.at_] at h1
    dsimp only at h1
    rw [List.nil_append]
    cases z : es.toList.find? (·.key.isStr q.1) with
    | some e => rw [z] at h1; cases h1; exact ⟨e, rfl, h2⟩
    | none =>
      rw [z] at h1
      dsimp only at h1
      split at h1 <;> cases h1
  · obtain ⟨k, t, e1, e2⟩ := D.lit.all e (Array.mem_toList_iff.mpr he)
    exact ⟨.inr k, by show keyIs (.inr k) e.key = true; rw [e1]; exact keyIs_str k t, e2⟩
  · rw [p1]
    exact List.pairwise_map.mpr (G.nd.imp fun h e => h (Sum.inr.inj e))
def gdD (kvs : List (Str × He.Dv)) : List (D × D) := kvs.map fun q => (D.str q.1, dvD q.2)
theorem gd_dat {mg : Str → Option Value} {F : Hp} : ∀ {kvs : List (Str × He.Dv)}, (kvs.all fun q => dvOk q.2) = true → DatK X.kw mg F (kvs.map fun q => ((Sum.inr q.1 : Key), q.2.v X.K)) (gdD kvs)
  | [], _ => .nil
  | q :: kvs, h => by
    obtain ⟨h1, h2⟩ := Bool.and_eq_true_iff.mp (show (dvOk q.2 && (kvs.all fun q => dvOk q.2)) = true from h)
    exact DatK.cons (k := .inr q.1) (dv_dat (K := X.K) (w := X.w) q.2 h1) (gd_dat h2)
/-- dict(G) -/
theorem fm_gcopy {dx : Str} {p1 p2 : Pos} (hc : X.calm = true) (hg : Gl X dx) (hm : X.mg dx = none) (hv : bootBuiltins dx = some (.type "dict")) (gx : Gl X x) (G : GDct X.K X.w X.mg x kvs) (hn : dx ≠ "__name__" := by decide) (hdb : (dx == ("__debug__" : Str)) = false := by decide) (hdx : (x == ("__debug__" : Str)) = false := by decide)
    (hl : kvs.length ≤ 100 := by decide) (he : starEach [.Name x p2] X.env = (false, eval (.Name x p2) X.env) :: starEach [] X.env := by rfl) (hpl : (backTo pos (starEach [] X.env)).any (·.1) = false := by rfl) :
    PFm X F0 H0 W (.Call (.Name dx p1) [.Name x p2] [] pos) (eK (.dct false (gdD kvs))) := by
  obtain ⟨a, es, n, hmx, D, hk, hv2⟩ := G.ex
  have hC : CallR X (.type "dict") (fun xs H Q => xs = [.ref a] ∧ ∀ p, H p = none → Q (.ref p) (upd H p (.dK (kvs.map fun q => ((Sum.inr q.1 : Key), q.2.v X.K))))) := by
    rintro pins s σ H xs us Q I r ⟨rfl, h⟩
    cases r with
    | cons r1 r2 =>
      cases r1
      cases r2
      obtain ⟨a', pv, e1, low, rel, dd⟩ := G.dict I
      rw [hmx] at e1
      cases e1
      refine kt_call_dict low dd (by rw [← rel.length, List.length_map]; exact Nat.le_trans hl (by decide)) fun h' dd' hs => ?_
      refine ⟨.ref s.heap.objs.size, _, I.laid (a := s.heap.objs.size) (o := .dK (kvs.map fun q => ((Sum.inr q.1 : Key), q.2.v X.K))) (t' := s.toks) (fun b q hq => ?_) (Nat.le_refl _) (dk_new (by rw [List.length_map]; exact Nat.le_trans hl (by decide)) (beq_eq_false_iff_ne.mpr (Ne.symm (Nat.ne_of_lt I.big))) rel dd'), rfl, h _ (I.hok.fresh (Nat.le_refl _))⟩
      exact (hs.2 b (Nat.ne_of_lt (Heap.lt_size hq))).trans (Heap.get?_push_of_some _ hq)
  refine PE.imp (pe_callTy hC hg hm hv (pa_cons (pe_glob (v := .ref a) gx hmx rfl hdx) pa_nil he) hn hdb he hpl) fun σ H Q ⟨F, ρ, r, q⟩ => ?_
  refine ⟨rfl, fun p np => ?_⟩
  exact q F _ p ⟨Same.refl F, r.fh.trans (same_upd np), same_upd np, fun a o e n => by rw [n] at e; cases e⟩ (r.fh.free np) np ⟨_, upd_same, gd_dat G.ok⟩
/-- x in G -/
def eGIn (kvs : List (Str × He.Dv)) (ma : EM) : EM := fun ρ => (ma ρ).bind fun d => match d with
  | .str z => .ok (.bl (decide (z ∈ kvs.map (·.1))))
  | _ => .no
theorem gin_tree (G : GDct X.K X.w X.mg x kvs) {es : Array DictEntry} {n : Nat} {a : Addr} (D : KDict X.K X.w a es n) (hk : es.toList.map He.keyOf = He.keysIn X.w.params (kvs.map (·.1))) (hv : ∀ q ∈ kvs, ∃ u, PySem.W.nsIn X.K a q.1 = some (some u) ∧ RelV (q.2.v X.K) u) :
    ∀ σ H Q, tE X.kw X.mg F0 H0 W (eGIn kvs m) σ H Q → tOp (fun x y H Q => ∃ (z : Str) (r : Option Value), x = .str z ∧ y = .ref a ∧ PySem.W.nsIn X.K a z = some r ∧ Q (.bl r.isSome) H) (tEb X.kw X.mg F0 H0 W m) (tC (.ref a)) σ H Q := fun σ H Q ⟨F, ρ, r, g⟩ => ⟨F, ρ, r, g.bind.imp fun d k F1 H1 v x1 d1 => by
  cases d with
  | str z =>
    dsimp only at k
    rw [d1.str]
    by_cases q : z ∈ kvs.map (·.1)
    · obtain ⟨p, hp, rfl⟩ := List.mem_map.mp q
      obtain ⟨u, h1, _⟩ := hv p hp
      rw [decide_eq_true q] at k
      exact ⟨p.1, some u, rfl, rfl, h1, k F1 H1 _ x1 (.bl _)⟩
    · rw [decide_eq_false q] at k
      exact ⟨z, none, rfl, rfl, ns_none D.at_ hk q, k F1 H1 _ x1 (.bl _)⟩
  | _ => exact False.elim k⟩
theorem em_gin {p : Pos} (ha : PBm X F0 H0 W e m) (hg : Gl X x) (G : GDct X.K X.w X.mg x kvs) (hdb : (x == ("__debug__" : Str)) = false := by decide) : PEm X F0 H0 W (.Compare e [.In] [.Name x p] pos) (eGIn kvs m) := by
  obtain ⟨a, es, n, hm, D, hk, hv⟩ := G.ex
  exact PE.imp (pe_cmpR (op_in_kd D) ha (pe_glob (v := .ref a) hg hm rfl hdb) rfl) (gin_tree G D hk hv)
theorem tm_gin {p : Pos} (ha : PBm X F0 H0 W e m) (hg : Gl X x) (G : GDct X.K X.w X.mg x kvs) (hdb : (x == ("__debug__" : Str)) = false := by decide) : PTm X F0 H0 W (.Compare e [.In] [.Name x p] pos) (tOf (eGIn kvs m)) := by
  obtain ⟨a, es, n, hm, D, hk, hv⟩ := G.ex
  exact PT.imp (pt_cmpR (op_in_kd D) ha (pe_glob (v := .ref a) hg hm rfl hdb) rfl) (test_of (gin_tree G D hk hv) _ rfl)
/-- G[x] -/
def eGIx (kvs : List (Str × He.Dv)) (ma : EM) : EM := fun ρ => (ma ρ).bind fun d => match d with
  | .str z => R.of ((kvs.find? fun q => decide (q.1 = z)).map fun q => dvD q.2)
  | _ => .no
theorem em_gix {p : Pos} (ha : PBm X F0 H0 W e m) (hg : Gl X x) (G : GDct X.K X.w X.mg x kvs) (hs : PlainIx e := by exact fun _ _ => rfl) (hdb : (x == ("__debug__" : Str)) = false := by decide) : PEm X F0 H0 W (.Subscript (.Name x p) e pos) (eGIx kvs m) := by
  obtain ⟨a, es, n, hm, D, hk, hv⟩ := G.ex
  refine PE.imp (pe_ix ix_kdict (pe_glob (v := .ref a) hg hm rfl hdb) ha hs) fun σ H Q ⟨F, ρ, r, g⟩ => ?_
  refine ⟨F, ρ, r, g.bind.imp fun d k F1 H1 v x1 d1 => ?_⟩
  cases d with
  | str z =>
    dsimp only at k
    rw [d1.str]
    obtain ⟨c, e1, k2⟩ := k.of
    cases q : kvs.find? fun q => decide (q.1 = z) with
    | none => rw [q] at e1; cases e1
    | some y =>
      rw [q] at e1
      cases e1
      have hy := List.mem_of_find?_eq_some q
      have hz0 := List.find?_some q
      have hz : y.1 = z := of_decide_eq_true hz0
      subst hz
      obtain ⟨u, h1, h2⟩ := hv y hy
      refine ⟨a, y.1, y.2.v X.K, rfl, rfl, ⟨es, n, u, D.at_, D.lit, h1, h2⟩, k2 F1 H1 _ x1 ?_⟩
      exact dv_dat (K := X.K) (w := X.w) y.2 (List.all_eq_true.mp G.ok y hy)
  | _ => exact False.elim k
end
@[simp] theorem x_GIn (kvs : List (Str × He.Dv)) (ma : EM) (ρ : Env) : eGIn kvs ma ρ = (ma ρ).bind fun d => match d with
  | .str z => .ok (.bl (decide (z ∈ kvs.map (·.1))))
  | _ => .no := nr rfl
@[simp] theorem x_GIx (kvs : List (Str × He.Dv)) (ma : EM) (ρ : Env) : eGIx kvs ma ρ = (ma ρ).bind fun d => match d with
  | .str z => R.of ((kvs.find? fun q => decide (q.1 = z)).map fun q => dvD q.2)
  | _ => .no := nr rfl
/-- from the head's facts -/
theorem HkD.Says.gdct {k : HkD} {w : World} {K : PySem.W.Frag} {h : Heap} {mg : Str → Option Value} (c : k.Says w K) (X : K.In h) (G : h.Ns mainGlobals mg) (i j l : Nat) {x : Str} {kvs : List (Str × He.Dv)} {f : PySem.W.Frag → Addr} (hi : k.ts[i]? = some (f, kvs.map (·.1)) := by rfl) (hl : k.tv[l]? = some (f, kvs) := by rfl) (hf : f = fun K => He.ga K x := by rfl) (hj : k.fa[j]? = some (.glo x) := by rfl)
    (nd : (kvs.map (·.1)).Nodup := by decide) (ok : (kvs.all fun q => dvOk q.2) = true := by rfl) : GDct K w mg x kvs := by
  subst hf
  refine ⟨?_, nd, ok⟩
  have t := c.t
  have e : k.ts.map (fun t => He.dicW K (t.1 K)) = k.ts.map fun t => some (He.keysIn w.params t.2) := congrArg (fun z : He.AlT => z.2) t
  have e1 : He.dicW K (He.ga K x) = some (He.keysIn w.params (kvs.map (·.1))) := by
    have : (k.ts.map fun t => He.dicW K (t.1 K))[i]? = (k.ts.map fun t => some (He.keysIn w.params t.2))[i]? := by rw [e]
    rw [List.getElem?_map, List.getElem?_map, hi] at this
    exact Option.some.inj this
  obtain ⟨_, b2⟩ := Bool.and_eq_true_iff.mp c.b
  have b := List.all_eq_true.mp b2 _ (List.mem_of_getElem? hl)
  obtain ⟨es, n, D⟩ := He.dicW_ok e1
  refine ⟨_, es, n, He.glo_ok X G (He.SaysD.fact c.d j hj), D, ?_, fun q hq => He.valsB_ok b hq⟩
  unfold He.dicW at e1
  rw [D.at_] at e1
  have low := D.low
  dsimp only at e1
  have hc : (decide (("dict" : String) = "dict") && ((#[] : Array (Option Value)).isEmpty && !(He.ga K x == sysModules))) = true := by rw [low]; rfl
  rw [hc] at e1
  exact Option.some.inj e1
end L2.Pv

set_option Elab.async false
set_option linter.all false
set_option maxRecDepth 100000
set_option maxHeartbeats 4000000
set_option autoImplicit false
/-! sorted(text), str(text). -/
namespace L2.Pv
open PySem PySem.Spec PyProof.Rows

def oneD (c : Nat) : D := .str ⟨#[c]⟩
def bSortT : List D → Option D
  | [.str x] => if x.cps.size < 64 then some (.lst ((sortN x.cps.toList).map oneD)) else none
  | xs => bSortX xs
theorem ltCps_one (a b : Nat) : ltCps [a] [b] = decide (a < b) := by
  rw [ltCps_eq]
  refine decide_eq_decide.mpr ⟨fun h => ?_, fun h => List.Lex.rel h⟩
  rcases List.cons_lt_cons_iff.mp h with h | ⟨_, h⟩
  · exact h
  · exact absurd h (by simp)
theorem rising_sorted : ∀ {l : List Nat} {p : Nat}, risingS (⟨#[p]⟩ : Str) (l.map fun c => (⟨#[c]⟩ : Str)) = true → (∀ c ∈ l, p ≤ c) ∧ l.Pairwise (· ≤ ·)
  | [], p, _ => ⟨fun _ h => by simp at h, .nil⟩
  | c :: l, p, h => by
    rw [List.map_cons] at h
    have h' : (!ltCps [c] [p] && risingS (⟨#[c]⟩ : Str) (l.map fun c => (⟨#[c]⟩ : Str))) = true := h
    obtain ⟨h1, h2⟩ := Bool.and_eq_true_iff.mp h'
    rw [ltCps_one] at h1
    have h3 : p ≤ c := by simpa using h1
    obtain ⟨g1, g2⟩ := rising_sorted h2
    refine ⟨fun d hd => ?_, List.pairwise_cons.mpr ⟨g1, g2⟩⟩
    rcases List.mem_cons.mp hd with rfl | hd
    · exact h3
    · exact Nat.le_trans h3 (g1 d hd)
theorem sorted_signs {l : List Nat} (h : sortedS (l.map fun c => (⟨#[c]⟩ : Str)) = true) : l.Pairwise (· ≤ ·) := by
  cases l with
  | nil => exact .nil
  | cons c l =>
    obtain ⟨g1, g2⟩ := rising_sorted h
    exact List.pairwise_cons.mpr ⟨g1, g2⟩
theorem signs_of_perm {l : List Nat} {ys : List Str} (p : ys.Perm (l.map fun c => (⟨#[c]⟩ : Str))) : ∃ m : List Nat, ys = m.map (fun c => (⟨#[c]⟩ : Str)) ∧ m.Perm l := by
  have q := p.map fun x : Str => x.cps.toList.headD 0
  rw [List.map_map] at q
  have e : l.map ((fun x : Str => x.cps.toList.headD 0) ∘ fun c => (⟨#[c]⟩ : Str)) = l := by
    conv => rhs; rw [← List.map_id l]
    exact List.map_congr_left fun c _ => rfl
  rw [e] at q
  refine ⟨_, ?_, q⟩
  rw [List.map_map]
  conv => lhs; rw [← List.map_id ys]
  refine List.map_congr_left fun y hy => ?_
  obtain ⟨c, _, rfl⟩ := List.mem_map.mp (p.mem_iff.mp hy)
  rfl
section
variable {X : Cx}
theorem call_sortedStr (hcalm : X.calm = true) : CallR X (.builtin "sorted") (fun xs H Q => ∃ x : Str, xs = [.str x] ∧ x.cps.size < 64 ∧
    ∀ p, H p = none → Q (.ref p) (upd H p (.lst ((sortN x.cps.toList).map fun c => V.str ⟨#[c]⟩)))) := by
  intro pins s σ H xs us Q I r q
  obtain ⟨x, ex, h64, q⟩ := q
  subst ex
  obtain ⟨u, eu, rx⟩ := vals1 r
  subst eu
  obtain ⟨t, rfl⟩ := rx
  have h16 : x.cps.size ≤ sizeLine := by rw [sizeLine_eq]; omega
  refine Calls.call_function_entry PyProof.Rows.kind_sorted PyProof.Rows.plain_sorted PyProof.Rows.entry_sorted (PyProof.Rows.args_sorted1 _) ?_
  unfold Builtin.«sorted»
  refine wpAny_bind (m := checkCount "sorted" 1 1 _) (wpAny_pure ?_)
  refine wpAny_bind (wpAny_collect_str (A := X.A.in1) (I.ok.hd hcalm) x t (fun s1 acc hm hg hd ho hacc => ?_) h16)
  have es : s1 = { s with heap := s1.heap, toks := s1.toks } := by cases s1; cases s; cases hg; cases hd; cases ho; rfl
  rw [es]
  generalize s1.heap = h', s1.toks = tk at hm
  have hal : acc.toList.length = (x.cps.toList.map fun c => (⟨#[c]⟩ : Str)).length := by rw [Array.length_toList, hacc.1, List.length_map, Array.length_toList]
  have hS : StrsAre acc.toList (x.cps.toList.map fun c => (⟨#[c]⟩ : Str)) := strs_at hal fun j v e => by
    obtain ⟨c, u, e1, e2⟩ := hacc.2 j v (by rw [← Array.getElem?_toList]; exact e)
    exact ⟨_, u, by rw [List.getElem?_map, Array.getElem?_toList, e1]; rfl, e2⟩
  have hln : acc.toList.length < 64 := by rw [hal, List.length_map, Array.length_toList]; exact h64
  have I1 : Inv X pins σ H { s with heap := h', toks := tk } := I.kept hm
  refine wpAny_bind (wpAny_newList ?_ (by rw [sizeLine_eq]; omega))
  have hoL : (h'.push (seqObj "list" acc.toList.toArray 0)).get? h'.objs.size = some (seqObj "list" acc.toList.toArray 0) := Heap.get?_push_size _ rfl
  show wpAny _ _ _ _ _ { s with heap := h'.push (seqObj "list" acc.toList.toArray 0), toks := tk }
  refine wpAny_bind (wpAny_holding (wpAny_call_entry PyProof.Rows.slot_list_sort ⟨_, hoL, rfl⟩ PyProof.Rows.entry_list_sort
    (list_sort_treeK strKind_oneLt (s := { s with heap := h'.push (seqObj "list" acc.toList.toArray 0), toks := tk }) hoL hS.keysOf (fun v₁ v₂ rest e => keyKind_strs (by rw [← e]; exact hS)) hln fun st' hp hs => ⟨_, rfl, ?_⟩)
    (PyProof.Rows.args_list_sort _)))
  obtain ⟨ys, g1, g2, g3⟩ := sorted_out_str hS hp hs
  obtain ⟨m, rfl, pm⟩ := signs_of_perm g2
  have hm' : m = sortN x.cps.toList := (sortN_one pm.symm (sorted_signs g3)).symm
  obtain ⟨e', he'⟩ := PyProof.Rows.sortedHeap_at (vs := acc.toList) (out := (arrOf st').map (·.2)) hoL
  have hlen : ((m.map fun c => (⟨#[c]⟩ : Str)).map V.str).length ≤ sizeLine := by
    rw [List.length_map, g2.length_eq, List.length_map, Array.length_toList]
    exact h16
  refine wpAny_pure ⟨_, rfl, .ref h'.objs.size, upd H h'.objs.size (.lst ((m.map fun c => (⟨#[c]⟩ : Str)).map V.str)), I1.laid (t' := tk) (fun b u e => ?_) (Nat.le_refl _)
    (show ObjOk X.prog X.w _ _ _ (.lst ((m.map fun c => (⟨#[c]⟩ : Str)).map V.str)) from ⟨hlen, ((arrOf st').map (·.2)).toList, e', vals_of_strs g1, by rw [Array.toArray_toList]; exact he'⟩), rfl, ?_⟩
  · have hb : b < h'.objs.size := Heap.lt_size e
    rw [PyProof.Rows.sortedHeap_old (Nat.ne_of_lt hb) (by rw [size_push']; exact Nat.lt_succ_of_lt hb)]
    exact Heap.get?_push_of_some _ e
  · have z := q _ (I1.hok.fresh (Nat.le_refl _))
    rw [List.map_map, hm']
    exact z
theorem oneD_dat {K : KW} {mg : Str → Option Value} {F : Hp} : ∀ l : List Nat, DatL K mg F (l.map fun c => V.str ⟨#[c]⟩) (l.map oneD)
  | [] => .nil
  | _ :: l => .cons (.str _) (oneD_dat l)
theorem cm_sortT (hc : X.calm = true) (hu : X.A.units + 65 < cLine) : CallM X (.builtin "sorted") bSortT := by
  rintro pins s σ H xs us Q I r ⟨F, ds, d, fh, l, e, k⟩
  unfold bSortT at e
  split at e
  · split at e
    · rename_i x h
      cases e
      obtain ⟨v, rfl, hx⟩ := l.one
      exact call_sortedStr hc pins s σ H _ us Q I r ⟨x, by rw [hx.str], h, fun p n => lst_new fh (oneD_dat _) k p n⟩
    · cases e
  · exact cm_sortX hc hu pins s σ H xs us Q I r ⟨F, ds, d, fh, l, e, k⟩
def bStrA : List D → Option D
  | [.str x] => some (.str x)
  | xs => bStr xs
theorem cm_strA : CallM X (.type "str") bStrA := by
  rintro pins s σ H xs us Q I r ⟨F, ds, d, fh, l, e, k⟩
  unfold bStrA at e
  split at e
  · cases e
    obtain ⟨v, rfl, hx⟩ := l.one
    exact SkE.call_str_str pins s σ H _ us Q I r ⟨_, by rw [hx.str], k F H _ (Ext.refl fh) (.str _)⟩
  · exact cm_str pins s σ H xs us Q I r ⟨F, ds, d, fh, l, e, k⟩
end
end L2.Pv

set_option Elab.async false
set_option linter.all false
set_option maxRecDepth 100000
set_option maxHeartbeats 4000000
set_option autoImplicit false
/-! dict(zip(text, text)). The held turns follow the library's own proofs for two lists. -/
namespace PySem
open Sem (wp)
open PySem.W (KdxIt kdx_alive)
section
variable {prog : Program} {w : World} {A : Around} {E : Value → Shared → Prop} {s : Shared} {z TI TO i1 i2 T : Addr} {fp1 fp2 : List Addr} {n1 n2 i : Nat} {P1 P2 : Nat → Value → Prop} {St1 St2 : Nat → Heap → Prop} {f : Bool} {oT : Obj}
theorem zipT_held_item {Q : Value → Shared → Prop} (S : ZipSep2 z TI TO i1 i2 fp1 fp2) (D1 : Draws prog w A i1 fp1 n1 P1 St1) (D2 : Draws prog w A i2 fp2 n2 P2 St2)
    (hz : IsZipHeld s.heap z TI TO T f) (hT : s.heap.get? T = some oT) (hTI : IsTupOf2 s.heap TI (.ref i1) (.ref i2)) (st1 : St1 i s.heap) (st2 : St2 i s.heap) (hlt1 : i < n1) (hlt2 : i < n2)
    (hQ : ∀ x1 x2 h' tk, P1 i x1 → P2 i x2 → IsZipHeld h' z TI TO T true → St1 (i + 1) h' → St2 (i + 1) h' → IsTupOf2 h' s.heap.objs.size x1 x2 → h'.objs.size = s.heap.objs.size + 1 →
      (∀ c o, c ≠ z → c ≠ i1 → c ≠ i2 → s.heap.get? c = some o → h'.get? c = some o) → Q (.ref s.heap.objs.size) { s with heap := h', toks := tk }) :
    wpAny (model prog w) A (Builtin.«zip.__next__» ⟨[.ref z], []⟩) (fun fin s' => ∃ v, fin = .done (.ret v) ∧ Q v s') E s := by
  obtain ⟨hp, g, d, tk0, os⟩ := s
  show wpAny _ _ (field (.ref z) 2 >>= _) _ _ _
  refine wpAny_bind (wpAny_field hz rfl (x := .bool false) rfl ?_)
  show wpAny _ _ (field (.ref z) 3 >>= _) _ _ _
  refine wpAny_bind (wpAny_field hz rfl (x := .ref TI) rfl ?_)
  refine wpAny_bind (wpAny_seqItems hTI rfl ?_)
  show wpAny _ _ (Builtin.SmallTypes.ownedTupleIsFree (.ref z) >>= _) _ _ _
  refine wpAny_bind (wpAny_tupleHeld_zip hz hT fun h₁ hz₁ hs₁ => ?_)
  replace hs₁ : Heap.SameBut z hp h₁ := hs₁
  simp only [Bool.false_eq_true, if_false]
  refine wpAny_bind ?_
  rw [← Array.forIn_toList]
  simp only [List.forIn_cons, List.forIn_nil]
  refine wpAny_bind (wpAny_bind (wpAny_holding ?_))
  show wpAny _ _ (Builtin.SmallTypes.nextOf (.ref i1) >>= _) _ _ ⟨h₁, g, d, tk0, os⟩
  refine wpAny_bind (D1.item i _ _ _ hlt1 (D1.over st1 hs₁ S.zf1) fun x1 h₂ tk1 hx1 sn1 hs₂ => wpAny_pure ?_)
  replace hs₂ : Heap.SameBut i1 h₁ h₂ := hs₂
  refine wpAny_pure ?_
  refine wpAny_bind (wpAny_bind (wpAny_holding ?_))
  show wpAny _ _ (Builtin.SmallTypes.nextOf (.ref i2) >>= _) _ _ ⟨h₂, g, d, tk1, os⟩
  refine wpAny_bind (D2.item i _ _ _ hlt2 (D2.over (D2.over st2 hs₁ S.zf2) hs₂ S.sep1_2) fun x2 h₃ tk2 hx2 sn2 hs₃ => wpAny_pure ?_)
  replace hs₃ : Heap.SameBut i2 h₂ h₃ := hs₃
  refine wpAny_pure (wpAny_pure ?_)
  show wpAny _ _ (newTuple [x1, x2] >>= _) _ _ ⟨h₃, g, d, tk2, os⟩
  refine wpAny_bind (wpAny_newTuple ?_)
  have hsz : h₃.objs.size = hp.objs.size := by rw [hs₃.1, hs₂.1, hs₁.1]
  have hz₃ : IsZipHeld h₃ z TI TO T true := hs₃.extBut _ _ S.zi2 (hs₂.extBut _ _ S.zi1 hz₁)
  have hk : ∀ c o, c ≠ z → c ≠ i1 → c ≠ i2 → hp.get? c = some o → h₃.get? c = some o := fun c o c1 c2 c3 e => hs₃.extBut _ _ c3 (hs₂.extBut _ _ c2 (hs₁.extBut _ _ c1 e))
  have hj1 : St1 (i + 1) h₃ := D1.over sn1 hs₃ S.sep2_1
  refine wpAny_pure ⟨_, rfl, ?_⟩
  show Q (.ref h₃.objs.size) ⟨h₃.push { cls := .type "tuple", data := .seq #[x1, x2] }, g, d, tk2, os⟩
  have hpp : IsTupOf2 (h₃.push { cls := .type "tuple", data := .seq #[x1, x2] }) h₃.objs.size x1 x2 := Heap.get?_push_size _ rfl
  have hz4 : (h₃.push { cls := .type "tuple", data := .seq #[x1, x2] }).objs.size = h₃.objs.size + 1 := Heap.size_push ..
  rw [hsz] at hpp hz4 ⊢
  exact hQ x1 x2 _ tk2 hx1 hx2 (Heap.get?_push_of_some _ hz₃) (D1.frame _ _ _ hj1 fun b _ o e => Heap.get?_push_of_some _ e) (D2.frame _ _ _ sn2 fun b _ o e => Heap.get?_push_of_some _ e) hpp hz4 fun c o c1 c2 c3 e => Heap.get?_push_of_some _ (hk c o c1 c2 c3 e)
theorem zipT_held_end {Q : Fin → Shared → Prop} (S : ZipSep2 z TI TO i1 i2 fp1 fp2) (D1 : Draws prog w A i1 fp1 n1 P1 St1) (D2 : Draws prog w A i2 fp2 n2 P2 St2)
    (hz : IsZipHeld s.heap z TI TO T f) (hT : s.heap.get? T = some oT) (hTI : IsTupOf2 s.heap TI (.ref i1) (.ref i2)) (st1 : St1 i s.heap) (st2 : St2 i s.heap) (hle1 : i ≤ n1) (hle2 : i ≤ n2) (hend : i = n1 ∨ i = n2)
    (hE : ∀ h' tk e, (∀ c o, c ≠ z → c ≠ i1 → c ≠ i2 → s.heap.get? c = some o → h'.get? c = some o) → (∃ o, h'.get? e = some o ∧ o.cls = .type "StopIteration") → E (.ref e) { s with heap := h', toks := tk }) :
    wpAny (model prog w) A (Builtin.«zip.__next__» ⟨[.ref z], []⟩) Q E s := by
  obtain ⟨hp, g, d, tk0, os⟩ := s
  show wpAny _ _ (field (.ref z) 2 >>= _) _ _ _
  refine wpAny_bind (wpAny_field hz rfl (x := .bool false) rfl ?_)
  show wpAny _ _ (field (.ref z) 3 >>= _) _ _ _
  refine wpAny_bind (wpAny_field hz rfl (x := .ref TI) rfl ?_)
  refine wpAny_bind (wpAny_seqItems hTI rfl ?_)
  show wpAny _ _ (Builtin.SmallTypes.ownedTupleIsFree (.ref z) >>= _) _ _ _
  refine wpAny_bind (wpAny_tupleHeld_zip hz hT fun h₁ hz₁ hs₁ => ?_)
  replace hs₁ : Heap.SameBut z hp h₁ := hs₁
  simp only [Bool.false_eq_true, if_false]
  refine wpAny_bind ?_
  rw [← Array.forIn_toList]
  simp only [List.forIn_cons, List.forIn_nil]
  refine wpAny_bind (wpAny_bind (wpAny_holding ?_))
  show wpAny _ _ (Builtin.SmallTypes.nextOf (.ref i1) >>= _) _ _ ⟨h₁, g, d, tk0, os⟩
  by_cases hlt1 : i < n1
  · have hi2 : i = n2 := by omega
    refine wpAny_bind (D1.item i _ _ _ hlt1 (D1.over st1 hs₁ S.zf1) fun x1 h₂ tk1 hx1 sn1 hs₂ => wpAny_pure ?_)
    replace hs₂ : Heap.SameBut i1 h₁ h₂ := hs₂
    refine wpAny_pure ?_
    refine wpAny_bind (wpAny_bind (wpAny_holding ?_))
    show wpAny _ _ (Builtin.SmallTypes.nextOf (.ref i2) >>= _) _ _ ⟨h₂, g, d, tk1, os⟩
    refine wpAny_bind (D2.done ⟨h₂, g, d, tk1, os⟩ _ _ (by rw [← hi2]; exact D2.over (D2.over st2 hs₁ S.zf2) hs₂ S.sep1_2) fun h₃ e hs₃ he => ?_)
    replace hs₃ : Heap.ExtBut i2 h₂ h₃ := hs₃
    exact hE h₃ tk1 e (fun c o c1 c2 c3 x => hs₃ _ _ c3 (hs₂.extBut _ _ c2 (hs₁.extBut _ _ c1 x))) he
  · have hi1 : i = n1 := by omega
    refine wpAny_bind (D1.done ⟨h₁, g, d, tk0, os⟩ _ _ (by rw [← hi1]; exact D1.over st1 hs₁ S.zf1) fun h₂ e hs₂ he => ?_)
    replace hs₂ : Heap.ExtBut i1 h₁ h₂ := hs₂
    exact hE h₂ tk0 e (fun c o c1 c2 c3 x => hs₂ _ _ c2 (hs₁.extBut _ _ c1 x)) he
theorem wpAny_pyNext_zipT_held_item {Q : Option Value → Shared → Prop} (S : ZipSep2 z TI TO i1 i2 fp1 fp2) (D1 : Draws prog w A.in1 i1 fp1 n1 P1 St1) (D2 : Draws prog w A.in1 i2 fp2 n2 P2 St2)
    (hz : IsZipHeld s.heap z TI TO T f) (hT : s.heap.get? T = some oT) (hTI : IsTupOf2 s.heap TI (.ref i1) (.ref i2)) (st1 : St1 i s.heap) (st2 : St2 i s.heap) (hlt1 : i < n1) (hlt2 : i < n2)
    (hQ : ∀ x1 x2 h' tk, P1 i x1 → P2 i x2 → IsZipHeld h' z TI TO T true → St1 (i + 1) h' → St2 (i + 1) h' → IsTupOf2 h' s.heap.objs.size x1 x2 → h'.objs.size = s.heap.objs.size + 1 →
      (∀ c o, c ≠ z → c ≠ i1 → c ≠ i2 → s.heap.get? c = some o → h'.get? c = some o) → Q (some (.ref s.heap.objs.size)) { s with heap := h', toks := tk }) :
    wpAny (model prog w) A (pyNext (.ref z)) Q E s := by
  have hTy : s.TypeIs (.ref z) "zip" := ⟨_, hz, rfl⟩
  unfold pyNext
  exact wpAny_bind (wpAny_attempt (wpAny_callSpecial?_slot (name := Str.ofString "__next__") hTy F.slot_zip_next
    (wpAny_call_entry F.slot_zip_next hTy F.entry_zip_next
      (zipT_held_item S D1 D2 hz hT hTI st1 st2 hlt1 hlt2 fun x1 x2 h' tk y1 y2 b1 d1 d2 b5 b6 b7 => wpAny_pure (hQ x1 x2 h' tk y1 y2 b1 d1 d2 b5 b6 b7)) (F.args_zip_next_1 _))))
theorem wpAny_pyNext_zipT_held_end {Q : Option Value → Shared → Prop} (S : ZipSep2 z TI TO i1 i2 fp1 fp2) (D1 : Draws prog w A.in1 i1 fp1 n1 P1 St1) (D2 : Draws prog w A.in1 i2 fp2 n2 P2 St2)
    (hz : IsZipHeld s.heap z TI TO T f) (hT : s.heap.get? T = some oT) (hTI : IsTupOf2 s.heap TI (.ref i1) (.ref i2)) (st1 : St1 i s.heap) (st2 : St2 i s.heap) (hle1 : i ≤ n1) (hle2 : i ≤ n2) (hend : i = n1 ∨ i = n2)
    (hQ : ∀ h' tk, (∀ c o, c ≠ z → c ≠ i1 → c ≠ i2 → s.heap.get? c = some o → h'.get? c = some o) → Q none { s with heap := h', toks := tk }) : wpAny (model prog w) A (pyNext (.ref z)) Q E s := by
  have hTy : s.TypeIs (.ref z) "zip" := ⟨_, hz, rfl⟩
  unfold pyNext
  refine wpAny_bind (wpAny_attempt (wpAny_callSpecial?_slot (name := Str.ofString "__next__") hTy F.slot_zip_next
    (wpAny_call_entry F.slot_zip_next hTy F.entry_zip_next (zipT_held_end S D1 D2 hz hT hTI st1 st2 hle1 hle2 hend fun h' tk e hk he => ?_) (F.args_zip_next_1 _))))
  obtain ⟨o, ho, hc⟩ := he
  refine wpAny_bind (wpAny_isInstance (T := "StopIteration") (b := true) ⟨o, ho, hc⟩ isSubtype_stop ?_)
  exact wpAny_pure (hQ _ _ hk)
end
section
variable {prog : Program} {w : World}
/-- a zip of two texts, as what dict() takes -/
theorem PairArg.zipT (z TI TO i1 i2 : Addr) (D : [z, TI, TO, i1, i2].Nodup) (x y : Str) (t u : Tok) :
    PairArg prog w "zip" z [z, TI, TO, i1, i2] [z, TO, i1, i2] (min x.cps.size y.cps.size) (fun i k v => SignAt x i k ∧ SignAt y i v)
      (fun h => IsZip h z TI TO .none ∧ IsTupOf2 h TI (.ref i1) (.ref i2) ∧ (∃ a b, IsTupOf2 h TO a b) ∧ h.IsStrIter i1 (strIterType x) x t 0 ∧ h.IsStrIter i2 (strIterType y) y u 0) where
  type := fun s ok => ⟨_, ok.1, rfl⟩
  notDict := by decide
  keep := fun h h' ok hk => by
    obtain ⟨hz, hTI, ⟨a, b, hTO⟩, ⟨o1, h1, r1⟩, ⟨o2, h2, r2⟩⟩ := ok
    exact ⟨hk _ _ hz, hk _ _ hTI, ⟨a, b, hk _ _ hTO⟩, ⟨o1, hk _ _ h1, r1⟩, ⟨o2, hk _ _ h2, r2⟩⟩
  there := fun h ok b hb => by
    obtain ⟨hz, hTI, ⟨a, c, hTO⟩, ⟨o1, h1, _⟩, ⟨o2, h2, _⟩⟩ := ok
    simp only [List.mem_cons, List.not_mem_nil, or_false] at hb
    rcases hb with rfl | rfl | rfl | rfl | rfl
    all_goals first | exact ⟨_, hz⟩ | exact ⟨_, hTI⟩ | exact ⟨_, hTO⟩ | exact ⟨_, h1⟩ | exact ⟨_, h2⟩
  sub := fun b hb => by simp at hb ⊢; rcases hb with rfl | rfl | rfl | rfl <;> simp
  noKeys := fun A s Q E hA ok h => getAttrOr_miss_zip ok.1 rfl rfl rfl zip_no_keys (by decide +kernel) hA h
  iter := fun A s d Q E hA ok hd hdf h => by
    obtain ⟨hz, hTI, ⟨a, b, hTO⟩, h1, h2⟩ := ok
    simp only [List.mem_cons, List.not_mem_nil, or_false, not_or] at hdf
    obtain ⟨dz, dTI, dTO, di1, di2⟩ := hdf
    simp only [List.nodup_cons, List.mem_cons, List.not_mem_nil, or_false, not_or] at D
    obtain ⟨⟨e1, e2, e3, e4⟩, ⟨e5, e6, e7⟩, ⟨e8, e9⟩, e10, _⟩ := D
    have S : ZipSep2 z TI TO i1 i2 [i1] [i2] := ⟨Ne.symm e1, Ne.symm e2, e5, e6, by simp, by simpa using e3, by simpa using e8, e7, by simp, by simpa using e4, by simpa using e9, by simpa using e10, by simpa using Ne.symm e10⟩
    have D1 : Draws prog w A.in1 i1 [i1] x.cps.size (SignAt x) (fun i h => h.IsStrIter i1 (strIterType x) x t i) := Draws.text (show A.in1.handled = none from hA) i1 x t
    have D2 : Draws prog w A.in1 i2 [i2] y.cps.size (SignAt y) (fun i h => h.IsStrIter i2 (strIterType y) y u i) := Draws.text (show A.in1.handled = none from hA) i2 y u
    refine wpAny_pyIter_zip hz (h z [z, TO, i1, i2] (fun i h => IsTupOf2 h TI (.ref i1) (.ref i2) ∧ h.IsStrIter i1 (strIterType x) x t i ∧ h.IsStrIter i2 (strIterType y) y u i ∧
      ((IsZip h z TI TO .none ∧ ∃ a b, IsTupOf2 h TO a b) ∨ ∃ T f oT, IsZipHeld h z TI TO T f ∧ h.get? T = some oT ∧ T ≠ z ∧ T ≠ i1 ∧ T ≠ i2 ∧ T ≠ d)) s.heap s.toks ?_
      ⟨hTI, h1, h2, .inl ⟨hz, a, b, hTO⟩⟩ (fun _ _ e => e) fun b hb => .inl hb)
    exact {
      off := fun hm => by
        simp only [List.mem_cons, List.not_mem_nil, or_false] at hm
        rcases hm with e | e | e | e
        · exact dz e
        · exact dTO e
        · exact di1 e
        · exact di2 e
      frame := fun i h₁ h₂ st hk => by
        obtain ⟨hTI, ⟨o1, g1, r1⟩, ⟨o2, g2, r2⟩, hz⟩ := st
        refine ⟨hk _ _ (Ne.symm dTI) hTI, ⟨o1, hk _ _ (Ne.symm di1) g1, r1⟩, ⟨o2, hk _ _ (Ne.symm di2) g2, r2⟩, ?_⟩
        rcases hz with ⟨hz, a, b, hTO⟩ | ⟨T, f, oT, hz, hT, r1, r2, r3, r4⟩
        · exact .inl ⟨hk _ _ (Ne.symm dz) hz, a, b, hk _ _ (Ne.symm dTO) hTO⟩
        · exact .inr ⟨T, f, oT, hk _ _ (Ne.symm dz) hz, hk _ _ r4 hT, r1, r2, r3, r4⟩
      item := fun i s₁ Q₁ E₁ hi st hds hQ => by
        obtain ⟨hTI, h1, h2, hz⟩ := st
        have hix : i < x.cps.size := Nat.lt_of_lt_of_le hi (Nat.min_le_left ..)
        have hiy : i < y.cps.size := Nat.lt_of_lt_of_le hi (Nat.min_le_right ..)
        have lt : ∀ {c o}, s₁.heap.get? c = some o → s₁.heap.objs.size ≠ c := fun e => Nat.ne_of_gt (Heap.lt_size e)
        have n1 : s₁.heap.objs.size ≠ i1 := let ⟨_, e, _⟩ := h1; lt e
        have n2 : s₁.heap.objs.size ≠ i2 := let ⟨_, e, _⟩ := h2; lt e
        rcases hz with ⟨hz, a, b, hTO⟩ | ⟨T, f, oT, hz, hT, r1, r2, r3, r4⟩
        · refine wpAny_pyNext_zipD2_item S D1 D2 hz hTI hTO h1 h2 hix hiy fun x1 x2 h' tk y1 y2 b1 b2 g1 g2 a5 a6 hk => ?_
          exact hQ s₁.heap.objs.size x1 x2 h' tk ⟨y1, y2⟩ (.inl ⟨_, a5, rfl, _, rfl⟩)
            ⟨hk _ _ S.TIz S.TITO S.TIi1 S.TIi2 hTI, g1, g2, .inr ⟨s₁.heap.objs.size, false, _, b1, a5, lt hz, n1, n2, Nat.ne_of_gt hds⟩⟩
            fun c o hc e => hk c o (fun x => hc (by simp [x])) (fun x => hc (by simp [x])) (fun x => hc (by simp [x])) (fun x => hc (by simp [x])) e
        · refine wpAny_pyNext_zipT_held_item S D1 D2 hz hT hTI h1 h2 hix hiy fun x1 x2 h' tk y1 y2 b1 g1 g2 a5 a6 hk => ?_
          exact hQ s₁.heap.objs.size x1 x2 h' tk ⟨y1, y2⟩ (.inl ⟨_, a5, rfl, _, rfl⟩)
            ⟨hk _ _ S.TIz S.TIi1 S.TIi2 hTI, g1, g2, .inr ⟨T, true, oT, b1, hk _ _ r1 r2 r3 hT, r1, r2, r3, r4⟩⟩
            fun c o hc e => hk c o (fun x => hc (by simp [x])) (fun x => hc (by simp [x])) (fun x => hc (by simp [x])) e
      done := fun s₁ Q₁ E₁ st hQ => by
        obtain ⟨hTI, h1, h2, hz⟩ := st
        have hend : min x.cps.size y.cps.size = x.cps.size ∨ min x.cps.size y.cps.size = y.cps.size := by omega
        rcases hz with ⟨hz, a, b, hTO⟩ | ⟨T, f, oT, hz, hT, r1, r2, r3, r4⟩
        · exact wpAny_pyNext_zipD2_end S D1 D2 hz hTI hTO h1 h2 (Nat.min_le_left ..) (Nat.min_le_right ..) hend fun h' tk hk => hQ h' tk fun c o hc e => hk c o (fun x => hc (by simp [x])) (fun x => hc (by simp [x])) (fun x => hc (by simp [x])) (fun x => hc (by simp [x])) e
        · exact wpAny_pyNext_zipT_held_end S D1 D2 hz hT hTI h1 h2 (Nat.min_le_left ..) (Nat.min_le_right ..) hend fun h' tk hk => hQ h' tk fun c o hc e => hk c o (fun x => hc (by simp [x])) (fun x => hc (by simp [x])) (fun x => hc (by simp [x])) e }
end
end PySem

set_option Elab.async false
set_option linter.all false
set_option maxRecDepth 100000
set_option maxHeartbeats 4000000
set_option autoImplicit false
/-! dict(zip(text, text)), as an expression. -/
namespace L2.Pv
open PySem PySem.Spec PyProof.Rows

def zipK (x y : Str) : List (Key × V) := (x.cps.toList.zip y.cps.toList).map fun p => (.inr ⟨#[p.1]⟩, .str ⟨#[p.2]⟩)
def zipDD (x y : Str) : List (D × D) := (x.cps.toList.zip y.cps.toList).map fun p => (oneD p.1, oneD p.2)
theorem zipK_len (x y : Str) : (zipK x y).length = min x.cps.size y.cps.size := by unfold zipK; simp
theorem zipK_dat {K : KW} {mg : Str → Option Value} {F : Hp} (x y : Str) : DatK K mg F (zipK x y) (zipDD x y) := by
  unfold zipK zipDD
  generalize x.cps.toList.zip y.cps.toList = l
  induction l with
  | nil => exact .nil
  | cons p l ih => exact .cons (.str _) ih
theorem KV.snoc {κ : Type} : ∀ {l : List (κ × V)} {m : List (κ × Value)} {p : κ × V} {q : κ × Value}, KV l m → p.1 = q.1 → RelV p.2 q.2 → KV (l ++ [p]) (m ++ [q])
  | _, _, _, _, .nil, e, r => .cons ⟨e, r⟩ .nil
  | _, _, _, _, .cons h t, e, r => .cons h (KV.snoc t e r)
section
variable {prog : Program} {w : World} {A : Around} {E : Value → Shared → Prop} {s : Shared}
theorem call_dict_zipT {Q : Value → Shared → Prop} {z TI TO i1 i2 : Addr} (hh : A.handled = none) (D : [z, TI, TO, i1, i2].Nodup) (x y : Str) (t u : Tok) (hsz : min x.cps.size y.cps.size ≤ 1000)
    (ok : IsZip s.heap z TI TO .none ∧ IsTupOf2 s.heap TI (.ref i1) (.ref i2) ∧ (∃ a b, IsTupOf2 s.heap TO a b) ∧ s.heap.IsStrIter i1 (strIterType x) x t 0 ∧ s.heap.IsStrIter i2 (strIterType y) y u 0)
    (h : ∀ h' tk kvs, KV (zipK x y) kvs → h'.DictOf (mixKind prog w) s.heap.objs.size (merged [] kvs) → (∀ b o, b ∉ [z, TO, i1, i2] → s.heap.get? b = some o → h'.get? b = some o) → Q (.ref s.heap.objs.size) { s with heap := h', toks := tk }) :
    wpAny (model prog w) A (call (.type "dict") [.ref z]) Q E s := by
  have P := PairArg.zipT (prog := prog) (w := w) z TI TO i1 i2 D x y t u
  refine call_dict_arg P ok fun s₁ hs₁ hdf ok₁ => ?_
  subst hs₁
  refine updateFrom_arg (A := A.in1) (Tab := fun i h => ∃ kvs, KV ((zipK x y).take i) kvs ∧ h.DictOf (mixKind prog w) s.heap.objs.size (merged [] kvs)) P .none hh ok₁ hdf ⟨[], .nil, Heap.DictOf.new s.heap⟩ (fun _ _ tb => let ⟨_, _, tb⟩ := tb; tb.lt_size)
    (fun i h h' wr' hd _ tb hk => let ⟨kvs, r, tb⟩ := tb; ⟨kvs, r, tb.at' fun o e => hk _ o hd e⟩) ?_ ?_
  · intro i key v s' Q E' hi hrel tb _ hQ
    obtain ⟨kvs, r, tb⟩ := tb
    obtain ⟨⟨c, u1, e1, rfl⟩, ⟨d, u2, e2, rfl⟩⟩ := hrel
    have hl : kvs.length = i := by
      have := Paired.length r
      rw [List.length_take, zipK_len] at this
      omega
    have hz : (zipK x y)[i]? = some (.inr ⟨#[c]⟩, .str ⟨#[d]⟩) := by
      unfold zipK
      rw [List.getElem?_map]
      have : (x.cps.toList.zip y.cps.toList)[i]? = some (c, d) := by
        rw [List.getElem?_zip_eq_some]
        exact ⟨by rw [Array.getElem?_toList]; exact e1, by rw [Array.getElem?_toList]; exact e2⟩
      rw [this]; rfl
    have his : (mixKind prog w).is (.inr ⟨#[c]⟩) (.str ⟨#[c]⟩ u1) = true := kV_is (P := prog) (w := w) (k := .inr ⟨#[c]⟩) ⟨u1, rfl⟩
    refine wpAny_dictSet_pairs (hsz := by have := merged_length ([] : List (Key × Value)) kvs; rw [sizeLine_eq]; simp at this; omega) his tb fun h' hm' hs => ?_
    refine hQ h' _ ⟨kvs ++ [(.inr ⟨#[c]⟩, .str ⟨#[d]⟩ u2)], ?_, ?_⟩ hs
    · rw [List.take_add_one, hz]
      exact KV.snoc r rfl ⟨u2, rfl⟩
    · unfold merged at hm' ⊢
      rw [List.foldl_append]
      exact hm'
  · intro h' tk tb hk
    obtain ⟨kvs, r, tb⟩ := tb
    rw [List.take_of_length_le (by rw [zipK_len]; exact Nat.le_refl _)] at r
    exact ⟨rfl, h h' tk kvs r tb fun b o hb e => hk b o (Nat.ne_of_lt (Heap.lt_size e)) hb (Heap.get?_push_of_some _ e)⟩
end
section
variable {X : Cx} {F0 H0 : Hp} {W : WX} {a b : Expr} {ta tb : TE} {ma mb : EM} {pos : Pos}
def D.dz : D → D → Option D
  | .str a, .str b => if min a.cps.size b.cps.size ≤ 1000 then some (.dct false (mergeD (zipDD a b))) else none
  | _, _ => none
theorem pe_dictZip {p p2 q : Pos} (hg : Gl X "dict") (hm : X.mg "dict" = none) (hg2 : Gl X "zip") (hm2 : X.mg "zip" = none) (ha : PE X a ta) (hb : PE X b tb) (hc : X.calm = true := by rfl)
    (na : starEach [a, b] X.env = (false, eval a X.env) :: starEach [b] X.env := by rfl) (nb : starEach [b] X.env = (false, eval b X.env) :: starEach [] X.env := by rfl) : PE X (.Call (.Name "dict" p) [.Call (.Name "zip" p2) [a, b] [] q] [] pos) (tOp (rMf X.kw X.mg D.dz) ta tb) := by
  refine ⟨fun pins s σ H Q I h => ?_⟩
  have b1 : bootBuiltins "dict" = some (Value.type "dict") := by decide +kernel
  have b2 : bootBuiltins "zip" = some (Value.type "zip") := by decide +kernel
  refine Call_ (ld_blt I hg hm b1 ?_)
  refine PyProof.Rows.callWith_type1 (PyProof.Rows.args_cons ?_ rfl) rfl rfl
  refine Call_ (ld_blt I hg2 hm2 b2 ?_)
  refine PyProof.Rows.callWith_type1 (PyProof.Rows.args_cons (thn (ha.run pins s σ H _ I h) fun v s1 ⟨x, H1, I1, r1, q1⟩ => PyProof.Rows.args_cons (thn (hb.run pins s1 σ H1 _ I1 q1) fun v2 s2 ⟨y, H2, I2, r2, q2⟩ => PyProof.Rows.args_nil ?_) nb) na) na (by rw [nb]; rfl)
  obtain ⟨F, dx, dy, d, fh, hx, hy, hg', q2⟩ := q2
  unfold D.dz at hg'
  split at hg'
  case h_2 => cases hg'
  rename_i xs ys
  split at hg'
  case isFalse => cases hg'
  rename_i hl
  cases hg'
  have hx := hx.str
  have hy := hy.str
  subst hx
  subst hy
  obtain ⟨t1, rfl⟩ := r1
  obtain ⟨t2, rfl⟩ := r2
  refine zip_begins2 (begins_text xs t1) (begins_text ys t2) trivial trivial fun h' z1 z2 z3 z4 z5 z6 hk => ?_
  refine PyProof.Rows.args_nil ?_
  have e1 : h'.IsStrIter s2.heap.objs.size (strIterType xs) xs t1 0 := ⟨_, z4, rfl, rfl⟩
  have e2 : h'.IsStrIter (s2.heap.objs.size + 1) (strIterType ys) ys t2 0 := ⟨_, z5, rfl, rfl⟩
  refine call_dict_zipT (s := { s2 with heap := h' }) (I2.ok.hd hc) (by simp) xs ys t1 t2 hl ⟨z1, z2, ⟨_, _, z3⟩, e1, e2⟩ fun h'' tk kvs rel hd hk2 => ?_
  have hd : h''.DictOf (mixKind X.prog X.w) h'.objs.size (merged [] kvs) := hd
  have k : ∀ b u, s2.heap.get? b = some u → h''.get? b = some u := fun b u e => hk2 b u (fun hm => by
    have := Heap.lt_size e
    simp only [List.mem_cons, List.not_mem_nil, or_false] at hm
    rcases hm with e | e | e | e
    · rw [e] at this; exact absurd this (Nat.not_lt.mpr (Nat.le_add_right _ _))
    · rw [e] at this; exact absurd this (Nat.not_lt.mpr (Nat.le_add_right _ _))
    · rw [e] at this; exact absurd this (Nat.lt_irrefl _)
    · rw [e] at this; exact absurd this (Nat.not_lt.mpr (Nat.le_add_right _ _))) (hk b u e)
  have hge : s2.heap.objs.size ≤ h'.objs.size := by rw [z6]; exact Nat.le_add_right _ _
  have hm : (h'.objs.size == sysModules) = false := beq_eq_false_iff_ne.mpr (Nat.ne_of_gt (Nat.lt_of_lt_of_le I2.big hge))
  have hlen : (mergeK [] (zipK xs ys)).length ≤ sizeLine := by
    refine Nat.le_trans (length_mergeK (zipK xs ys) []) ?_
    rw [List.length_nil, Nat.zero_add, zipK_len, sizeLine_eq]
    omega
  exact ⟨.ref h'.objs.size, upd H2 h'.objs.size (.dK (mergeK [] (zipK xs ys))), I2.laid (t' := tk) k hge (show ObjOk X.prog X.w _ _ _ (.dK (mergeK [] (zipK xs ys))) from ⟨hlen, hm, merged [] kvs, KV.merge rel .nil, hd⟩), rfl, q2 F _ _ ⟨Same.refl F, fh.trans (same_upd (I2.hok.fresh hge)), same_upd (I2.hok.fresh hge), fun a o e n => by rw [n] at e; cases e⟩ (fh.free (I2.hok.fresh hge)) (I2.hok.fresh hge) ⟨_, upd_same, mrg_dat (zipK_dat xs ys) .nil⟩⟩
/-- dict(zip(text, text)) -/
theorem fm_dz {p p2 q : Pos} (hc : X.calm = true) (hg : Gl X "dict") (hm : X.mg "dict" = none) (hg2 : Gl X "zip") (hm2 : X.mg "zip" = none) (ha : PBm X F0 H0 W a ma) (hb : PBm X F0 H0 W b mb)
    (na : starEach [a, b] X.env = (false, eval a X.env) :: starEach [b] X.env := by rfl) (nb : starEach [b] X.env = (false, eval b X.env) :: starEach [] X.env := by rfl) : PFm X F0 H0 W (.Call (.Name "dict" p) [.Call (.Name "zip" p2) [a, b] [] q] [] pos) (eOp D.dz ma mb) := by
  refine PE.imp (pe_dictZip hg hm hg2 hm2 ha hb hc na nb) ?_
  rintro σ H Q ⟨F, ρ, r, h⟩
  refine ⟨F, ρ, r, h.bind.imp fun x h1 F1 H1 v x1 d1 => ?_⟩
  refine ⟨F1, ρ, r.ext x1, (h1.move x1).bind.imp fun y h2 F2 H2 w x2 d2 => ?_⟩
  obtain ⟨d, e, k⟩ := h2.of
  refine ⟨F2, x, y, d, x2.fh, d1.ext x2, d2, e, fun F3 H3 z x3 n1 n2 q => k F3 H3 z (x1.trans (x2.trans x3)) n1 ?_ q⟩
  cases e : H z with
  | none => rfl
  | some o => have := (x1.trans x2).hh z o e; rw [this] at n2; cases n2
end
end L2.Pv

set_option Elab.async false
set_option linter.all false
set_option maxRecDepth 100000
set_option maxHeartbeats 4000000
set_option autoImplicit false
/-! States and steps of floors, in plain Lean. -/
namespace L2.Pv
open PySem PySem.Spec PyProof.Rows

structure Sta where
  on : List (Option Nat)
  turns : List Nat
  waits : List Nat
  deriving DecidableEq
def kindO : Option Nat → Str
  | none => "."
  | some k => kindS k
def onD (l : List (Option Nat)) : List D := l.map fun o => D.str (kindO o)
def Sta.enc (s : Sta) : D := .tup [.tup (onD s.on), .tup (nats s.turns), .tup (nats s.waits)]
def Sta.onAt (s : Sta) (c : Nat) : Option Nat := s.on.getD c none
def Sta.turnAt (s : Sta) (c : Nat) : Nat := s.turns.getD c 0
def Sta.waitAt (s : Sta) (c : Nat) : Nat := s.waits.getD c 0
def Cell.isP : Cell → Bool
  | .parter _ _ => true
  | _ => false
def Cell.wmax : Cell → Nat
  | .well _ _ w => w - 1
  | _ => 0
def Fl.many (f : Fl) (c : Nat) : Nat := max 1 (f.comers c).length
def Fl.TurnOk (f : Fl) (c t : Nat) : Prop :=
  if (f.at c).isP = true then t < 2 * f.many c ∧ (t % 2 = 0 ∨ (f.goals c).length = 2) else t < f.many c
structure Fl.SOk (f : Fl) (s : Sta) : Prop where
  l1 : s.on.length = f.size
  l2 : s.turns.length = f.size
  l3 : s.waits.length = f.size
  on : ∀ c, c < f.size → ∀ k, s.onAt c = some k → k < 3 ∧ f.at c ≠ .wall ∧ f.at c ≠ .fin
  tn : ∀ c, c < f.size → f.TurnOk c (s.turnAt c)
  wt : ∀ c, c < f.size → s.waitAt c ≤ (f.at c).wmax

section
variable (f : Fl) (s : Sta)
/-- of two ways the one that is wanted -/
def pick2 (s : Sta) (t g h : Nat) : Nat :=
  if t % 2 = 0 then (if s.onAt g ≠ none ∧ s.onAt h = none then h else g) else (if s.onAt h ≠ none ∧ s.onAt g = none then g else h)
def Fl.wish (c : Nat) : Option Nat := match s.onAt c, f.goals c with
  | none, _ => none
  | some _, [] => none
  | some _, [g] => some g
  | some _, g :: h :: _ => some (pick2 s (s.turnAt c) g h)
def Fl.base (c : Nat) : Nat := if (f.at c).isP = true then s.turnAt c / 2 else s.turnAt c
def rotN (l : List Nat) (t : Nat) : List Nat := l.drop t ++ l.take t
def Fl.winner (c : Nat) : Option Nat := (rotN (f.comers c) (f.base s c)).find? fun o => decide (f.wish s o = some c)
def Fl.letTo (c : Nat) : Option Nat := match f.wish s c with
  | none => none
  | some g => if f.winner s g = some c then some g else none
def Fl.may : Nat → Nat → Bool
  | 0, _ => true
  | k + 1, c => match f.letTo s c with
    | none => false
    | some g => decide (s.onAt g = none) || Fl.may k g
def Fl.mayS : Nat → List Nat → Nat → Bool
  | 0, _, _ => false
  | k + 1, seen, c => match f.letTo s c with
    | none => false
    | some g => if s.onAt g = none ∨ g ∈ seen then true else Fl.mayS k (seen ++ [g]) g
def Fl.go (c : Nat) : Bool := f.mayS s 40 [c] c
def Fl.into (c : Nat) : Option Nat := match f.winner s c with
  | none => none
  | some o => if f.go s o = true then some o else none
def Fl.out (c : Nat) : Option Nat := match f.letTo s c with
  | none => none
  | some g => if f.go s c = true then some g else none
def Fl.moves : List (Nat × Nat) := (List.range f.size).filterMap fun c => (f.out s c).map fun g => (c, g)
def Fl.on1 (c : Nat) : Option Nat := match f.into s c with
  | some o => if f.at c = .fin then none else s.onAt o
  | none => if f.out s c = none then s.onAt c else none
def Fl.fresh (c : Nat) : Bool := match f.at c with
  | .well _ _ _ => decide (s.waitAt c = 0 ∧ f.on1 s c = none)
  | _ => false
def Cell.kind : Cell → Nat
  | .well _ k _ => k
  | _ => 0
def Fl.on2 (c : Nat) : Option Nat := if f.fresh s c = true then some (f.at c).kind else f.on1 s c
def Fl.wait1 (c : Nat) : Nat := if f.fresh s c = true then (f.at c).wmax else s.waitAt c - 1
def Fl.way1 (c : Nat) : Nat := match f.out s c with
  | some g => if (f.goals c).length = 2 then 1 - (f.goals c).idxOf g else s.turnAt c % 2
  | none => s.turnAt c % 2
def Fl.base1 (c : Nat) : Nat := match f.into s c with
  | some o => ((f.comers c).idxOf o + 1) % (f.comers c).length
  | none => f.base s c
def Fl.turn1 (c : Nat) : Nat := if (f.at c).isP = true then 2 * f.base1 s c + f.way1 s c else f.base1 s c
def Fl.next : Sta := ⟨(List.range f.size).map (f.on2 s), (List.range f.size).map (f.turn1 s), (List.range f.size).map (f.wait1 s)⟩
/-- what came: the end, and from where -/
def Fl.cameO : List (Nat × Nat) := (List.range f.size).filterMap fun c => if f.at c = .fin then (f.into s c).map fun o => (c, o) else none
def Fl.came : List (Nat × Nat) := (f.cameO s).map fun p => (p.1, (s.onAt p.2).getD 0)
end

section
variable {f : Fl} {s : Sta} {c g o : Nat}
theorem pick2_mem (t g h : Nat) : pick2 s t g h = g ∨ pick2 s t g h = h := by
  unfold pick2
  split <;> split <;> simp
theorem wish_mem (h : f.wish s c = some g) : g ∈ f.goals c ∧ s.onAt c ≠ none := by
  unfold Fl.wish at h
  split at h
  · cases h
  · cases h
  · rename_i a b
    cases h
    rw [a, b]; simp
  · rename_i g' h' r a b
    cases h
    rw [a, b]
    rcases pick2_mem (s := s) (s.turnAt c) g' h' with e | e <;> simp [e]
theorem mem_rotN {l : List Nat} {t x : Nat} : x ∈ rotN l t ↔ x ∈ l := by
  unfold rotN
  rw [List.mem_append, Or.comm, ← List.mem_append, List.take_append_drop]
theorem winner_wish (h : f.winner s g = some c) : f.wish s c = some g ∧ c ∈ f.comers g := by
  unfold Fl.winner at h
  have h1 := List.find?_some h
  exact ⟨of_decide_eq_true h1, mem_rotN.mp (List.mem_of_find?_eq_some h)⟩
theorem letTo_iff : f.letTo s c = some g ↔ f.winner s g = some c := by
  unfold Fl.letTo
  constructor
  · intro h
    split at h
    · cases h
    · split at h
      · cases h; assumption
      · cases h
  · intro h
    rw [(winner_wish h).1]
    simp [h]
theorem letTo_wish (h : f.letTo s c = some g) : f.wish s c = some g := (winner_wish (letTo_iff.mp h)).1
theorem letTo_lt (ok : f.Ok) (h : f.letTo s c = some g) : g < f.size := goals_lt ok (wish_mem (letTo_wish h)).1
theorem letTo_lt' (ok : f.Ok) (h : f.letTo s c = some g) : c < f.size := comers_lt ok (winner_wish (letTo_iff.mp h)).2
theorem may_mono : ∀ {k c : Nat}, f.may s (k + 1) c = true → f.may s k c = true
  | 0, c, _ => rfl
  | k + 1, c, h => by
    unfold Fl.may at h ⊢
    split at h
    · exact h
    · rw [Bool.or_eq_true] at h ⊢
      exact h.imp id may_mono
theorem may_le {k c : Nat} (h : f.may s k c = true) : ∀ {j : Nat}, j ≤ k → f.may s j c = true := by
  induction k with
  | zero => intro j hj; rw [Nat.le_zero.mp hj]; exact h
  | succ k ih =>
    intro j hj
    rcases Nat.lt_or_ge j (k + 1) with q | q
    · exact ih (may_mono h) (by omega)
    · rw [show j = k + 1 from by omega]; exact h
theorem mayS_go (ok : f.Ok) : ∀ (k : Nat) (seen : List Nat) (c : Nat), seen.Nodup → (∀ x ∈ seen, x < f.size) → c ∈ seen → (∀ x ∈ seen, ∃ j, ∀ m, f.may s (m + j) x = f.may s m c) → f.size < k + seen.length → (f.mayS s k seen c = true ↔ ∀ m, f.may s m c = true)
  | 0, seen, c, nd, hb, _, _, h => absurd (nodup_len nd hb) (by omega)
  | k + 1, seen, c, nd, hb, hc, hch, h => by
    unfold Fl.mayS
    have one : ∀ m, f.may s (m + 1) c = match f.letTo s c with
      | none => false
      | some g => decide (s.onAt g = none) || f.may s m g := fun m => by rw [Fl.may]
    cases hl : f.letTo s c with
    | none =>
      simp
      refine ⟨1, ?_⟩
      rw [one 0, hl]
    | some g =>
      rw [hl] at one
      dsimp only at one ⊢
      by_cases hn : s.onAt g = none
      · rw [if_pos (.inl hn)]
        refine ⟨fun _ m => ?_, fun _ => rfl⟩
        cases m with
        | zero => rfl
        | succ m => rw [one m]; simp [hn]
      · have one' : ∀ m, f.may s (m + 1) c = f.may s m g := fun m => by rw [one m]; simp [hn]
        by_cases hs : g ∈ seen
        · rw [if_pos (.inr hs)]
          refine ⟨fun _ => ?_, fun _ => rfl⟩
          obtain ⟨j, hj⟩ := hch g hs
          have cyc : ∀ m, f.may s (m + j + 1) c = f.may s m c := fun m => by rw [one', hj]
          have all : ∀ n, f.may s (n * (j + 1)) c = true := by
            intro n
            induction n with
            | zero => rw [Nat.zero_mul]; rfl
            | succ n ih => rw [Nat.succ_mul, show n * (j + 1) + (j + 1) = n * (j + 1) + j + 1 from by omega, cyc]; exact ih
          intro m
          exact may_le (all m) (Nat.le_mul_of_pos_right m (by omega))
        · rw [if_neg (by simp [hn, hs])]
          rw [mayS_go ok k (seen ++ [g]) g (List.nodup_append.mpr ⟨nd, by simp, fun a ha b hb' e => by rw [List.mem_singleton.mp hb'] at e; subst e; exact hs ha⟩) (fun x hx => ?_) (by simp) (fun x hx => ?_) (by simp; omega)]
          · refine ⟨fun q m => ?_, fun q m => by rw [← one']; exact q _⟩
            cases m with
            | zero => rfl
            | succ m => rw [one']; exact q m
          · rcases List.mem_append.mp hx with hx | hx
            · exact hb x hx
            · rw [List.mem_singleton.mp hx]; exact letTo_lt ok hl
          · rcases List.mem_append.mp hx with hx | hx
            · obtain ⟨j, hj⟩ := hch x hx
              exact ⟨j + 1, fun m => by rw [← one', ← hj]; congr 1; omega⟩
            · rw [List.mem_singleton.mp hx]; exact ⟨0, fun m => rfl⟩
theorem mayS_one (ok : f.Ok) (hc : c < f.size) {k : Nat} (hk : f.size ≤ k) : f.mayS s k [c] c = true ↔ ∀ m, f.may s m c = true :=
  mayS_go ok k [c] c (by simp) (fun x hx => by rw [List.mem_singleton.mp hx]; exact hc) (by simp) (fun x hx => by rw [List.mem_singleton.mp hx]; exact ⟨0, fun m => rfl⟩) (by simp; omega)
theorem go_iff (ok : f.Ok) (hc : c < f.size) : f.go s c = true ↔ ∀ m, f.may s m c = true := mayS_one ok hc (Nat.le_trans (Fl.size_le ok) (by decide))
theorem go_let (h : f.go s c = true) : ∃ g, f.letTo s c = some g := by
  unfold Fl.go Fl.mayS at h
  split at h
  · cases h
  · exact ⟨_, by assumption⟩
theorem go_step (ok : f.Ok) (hl : f.letTo s c = some g) : f.go s c = true ↔ (s.onAt g = none ∨ f.go s g = true) := by
  have hg := letTo_lt ok hl
  have hc := letTo_lt' ok hl
  rw [go_iff ok hc, go_iff ok hg]
  have one : ∀ m, f.may s (m + 1) c = (decide (s.onAt g = none) || f.may s m g) := fun m => by rw [Fl.may, hl]
  by_cases hn : s.onAt g = none
  · simp [hn]
    intro m
    cases m with
    | zero => rfl
    | succ m => rw [one]; simp [hn]
  · simp [hn]
    constructor
    · intro q m
      have := q (m + 1)
      rw [one] at this
      simpa [hn] using this
    · intro q m
      cases m with
      | zero => rfl
      | succ m => rw [one, q m]; simp
/-- what keeps itself moving moves -/
theorem go_max (ok : f.Ok) (S : Nat → Prop) (hS : ∀ c, S c → ∃ g, f.letTo s c = some g ∧ (s.onAt g = none ∨ S g)) (h : S c) : f.go s c = true := by
  obtain ⟨g, hg, _⟩ := hS c h
  rw [go_iff ok (letTo_lt' ok hg)]
  intro m
  induction m generalizing c g with
  | zero => rfl
  | succ m ih =>
    obtain ⟨g, hg, q⟩ := hS c h
    rw [Fl.may, hg]
    dsimp only
    rcases q with q | q
    · simp [q]
    · obtain ⟨g', hg', _⟩ := hS g q
      rw [ih q g' hg' (by assumption)]; simp
theorem into_iff : f.into s c = some o ↔ f.winner s c = some o ∧ f.go s o = true := by
  unfold Fl.into
  split
  · rename_i h; simp [h]
  · rename_i o' h
    rw [h]
    split
    · rename_i q
      simp
      intro e; rw [← e]; exact q
    · rename_i q
      simp
      intro e; rw [← e]; simpa using q
theorem out_iff : f.out s c = some g ↔ f.letTo s c = some g ∧ f.go s c = true := by
  unfold Fl.out
  split
  · rename_i h; simp [h]
  · rename_i o' h
    rw [h]
    split
    · rename_i q
      simp [q]
    · rename_i q
      simp [q]
theorem into_out : f.into s c = some o ↔ f.out s o = some c := by
  rw [into_iff, out_iff, letTo_iff]
theorem out_none : f.out s c = none ↔ f.go s c = false := by
  cases h : f.out s c with
  | some g => simp [(out_iff.mp h).2]
  | none =>
    simp
    cases q : f.go s c with
    | false => rfl
    | true =>
      obtain ⟨g, hg⟩ := go_let q
      rw [out_iff.mpr ⟨hg, q⟩] at h
      cases h
theorem out_goal (h : f.out s c = some g) : g ∈ f.goals c ∧ s.onAt c ≠ none := wish_mem (letTo_wish (out_iff.mp h).1)
theorem out_lt (ok : f.Ok) (h : f.out s c = some g) : c < f.size ∧ g < f.size := ⟨letTo_lt' ok (out_iff.mp h).1, letTo_lt ok (out_iff.mp h).1⟩
theorem into_comer (h : f.into s c = some o) : o ∈ f.comers c := (winner_wish (into_iff.mp h).1).2
theorem out_inj {c' : Nat} (h : f.out s c = some g) (h' : f.out s c' = some g) : c = c' := by
  have := into_out.mpr h
  rw [into_out.mpr h'] at this
  cases this; rfl
/-- where a thing moves to, there is room -/
theorem out_room (ok : f.Ok) (h : f.out s c = some g) : s.onAt g = none ∨ ∃ g', f.out s g = some g' := by
  obtain ⟨h1, h2⟩ := out_iff.mp h
  rcases (go_step ok h1).mp h2 with q | q
  · exact .inl q
  · obtain ⟨g', hg⟩ := go_let q
    exact .inr ⟨g', out_iff.mpr ⟨hg, q⟩⟩
theorem mem_moves (ok : f.Ok) : (c, g) ∈ f.moves s ↔ f.out s c = some g := by
  unfold Fl.moves
  rw [List.mem_filterMap]
  constructor
  · rintro ⟨a, _, e⟩
    cases h : f.out s a with
    | none => rw [h] at e; cases e
    | some g' => rw [h] at e; cases e; exact h
  · intro h
    exact ⟨c, List.mem_range.mpr (out_lt ok h).1, by rw [h]; rfl⟩
theorem goal_word (h : g ∈ f.goals c) : f.at g ≠ .wall := by
  obtain ⟨sd, _, e⟩ := List.mem_filterMap.mp h
  obtain ⟨_, _, _, _, _, _, _, _, _, q⟩ := beside_some e
  exact q
theorem fin_goals (h : f.at c = .fin) : f.goals c = [] := by unfold Fl.goals; rw [h]; rfl
theorem on_fin (S : f.SOk s) (hc : c < f.size) (h : f.at c = .fin) : s.onAt c = none := by
  cases q : s.onAt c with
  | none => rfl
  | some k => exact absurd h (S.on c hc k q).2.2
theorem base_lt (S : f.SOk s) (hc : c < f.size) (h : f.comers c ≠ []) : f.base s c < (f.comers c).length := by
  have hp : 0 < (f.comers c).length := List.length_pos_iff.mpr h
  have t := S.tn c hc
  unfold Fl.base Fl.TurnOk Fl.many at *
  split at t
  · rw [if_pos (by assumption)]; omega
  · rw [if_neg (by assumption)]; omega
theorem base_lt' (S : f.SOk s) (hc : c < f.size) : f.base s c < f.many c := by
  have t := S.tn c hc
  unfold Fl.base Fl.TurnOk at *
  split at t
  · rw [if_pos (by assumption)]; omega
  · rw [if_neg (by assumption)]; omega
theorem isP_goals (h : (f.goals c).length = 2) : (f.at c).isP = true := by
  have := List.length_filterMap_le (f.beside c) (f.at c).outs
  unfold Fl.goals at h
  cases q : f.at c <;> rw [q] at this h <;> simp [Cell.outs, Cell.isP] at this h ⊢
  all_goals omega
theorem getD_map_range {α : Type} (n : Nat) (g : Nat → α) (d : α) {c : Nat} (h : c < n) : ((List.range n).map g).getD c d = g c := by
  rw [List.getD_eq_getElem?_getD, List.getElem?_map, List.getElem?_range h]; rfl
theorem next_on (h : c < f.size) : (f.next s).onAt c = f.on2 s c := getD_map_range _ _ _ h
theorem next_turn (h : c < f.size) : (f.next s).turnAt c = f.turn1 s c := getD_map_range _ _ _ h
theorem next_wait (h : c < f.size) : (f.next s).waitAt c = f.wait1 s c := getD_map_range _ _ _ h
theorem base1_lt (S : f.SOk s) (hc : c < f.size) : f.base1 s c < f.many c := by
  unfold Fl.base1
  split
  · rename_i o h
    have : 0 < (f.comers c).length := List.length_pos_of_mem (into_comer h)
    have := Nat.mod_lt ((f.comers c).idxOf o + 1) this
    unfold Fl.many
    omega
  · exact base_lt' S hc
theorem way1_ok (S : f.SOk s) (hc : c < f.size) (hp : (f.at c).isP = true) : f.way1 s c < 2 ∧ (f.way1 s c = 0 ∨ (f.goals c).length = 2) := by
  have t := S.tn c hc
  unfold Fl.TurnOk at t
  rw [if_pos hp] at t
  unfold Fl.way1
  split
  · split
    · rename_i h; exact ⟨by omega, .inr h⟩
    · exact ⟨by omega, t.2⟩
  · exact ⟨by omega, t.2⟩
theorem next_ok (ok : f.Ok) (S : f.SOk s) : f.SOk (f.next s) where
  l1 := by unfold Fl.next; simp
  l2 := by unfold Fl.next; simp
  l3 := by unfold Fl.next; simp
  on := fun c hc k h => by
    rw [next_on hc] at h
    unfold Fl.on2 at h
    split at h
    · rename_i q
      cases h
      unfold Fl.fresh at q
      split at q
      · rename_i sd k w e
        have := Fl.at_ok ok c
        rw [e] at this ⊢
        exact ⟨this.1, by simp, by simp⟩
      · cases q
    · unfold Fl.on1 at h
      split at h
      · rename_i o e
        split at h
        · cases h
        · rename_i nf
          have ho := comers_lt ok (into_comer e)
          exact ⟨(S.on o ho k h).1, goal_word (out_goal (into_out.mp e)).1, nf⟩
      · split at h
        · exact S.on c hc k h
        · cases h
  tn := fun c hc => by
    rw [next_turn hc]
    unfold Fl.TurnOk Fl.turn1
    have b := base1_lt S hc
    split
    · rename_i hp
      have w := way1_ok S hc hp
      refine ⟨by omega, ?_⟩
      rcases w.2 with q | q
      · left; omega
      · right; exact q
    · exact b
  wt := fun c hc => by
    rw [next_wait hc]
    have := S.wt c hc
    unfold Fl.wait1
    split
    · exact Nat.le_refl _
    · omega
end
end L2.Pv

set_option Elab.async false
set_option linter.all false
set_option maxRecDepth 100000
set_option maxHeartbeats 4000000
set_option autoImplicit false
/-! Words of objects, dicts of numbers, data of states. -/
namespace L2.Pv
open PySem PySem.Spec PyProof.Rows
open PySem.W (dataLe)

/-! ### rows -/
def fldD (c f : Str) : D → R D
  | .obj c' fs => if c' = c then R.of (fs.lookup f) else .no
  | _ => .no
def methD (c m : Str) (f : List D → R D) (ds : R (List D)) : D → R D
  | .obj c' fs => if c' = c ∧ fs.lookup m = none then ds.bind fun es => (f (.obj c' fs :: es)).nx else .no
  | _ => .no
section
variable (ρ : Env) (d : D) (ma mb mc mo : EM) (ms : List EM) (c f m : Str) (g : List D → R D) (i j l : Nat)
@[simp] theorem x_Fld : eFld c f ma ρ = (ma ρ).bind (fldD c f) := by
  show R.bind _ _ = _
  congr 1
@[simp] theorem x_Meth : eMeth c m g mo ms ρ = (mo ρ).bind (methD c m g (aAll ms ρ)) := by
  show R.bind _ _ = _
  congr 1
  funext x
  cases x <;> rfl
@[simp] theorem nx_ok {α : Type} (a : α) : (R.ok a).nx = .ok a := nr rfl
@[simp] theorem nx_ex {α : Type} (x : Str) : (R.ex x : R α).nx = .no := nr rfl
@[simp] theorem nx_no {α : Type} : (R.no : R α).nx = .no := nr rfl
@[simp] theorem x_Make : eMake g ms ρ = (aAll ms ρ).bind fun ds => (g ds).nx := nr rfl
@[simp] theorem x_Items : eItems mo ρ = (mo ρ).bind fun d => R.of (bItems d) := nr rfl
@[simp] theorem x_Dpop : sDpop i ma ρ = match slAt ρ i with
  | some (.own (.dct false ps)) => (ma ρ).out ρ fun k => if D.keyOk false k && (D.find k ps).isSome then .nx (ρ.set i (some (.own (.dct false (D.drop ps k))))) else .no
  | _ => .no := nr rfl
@[simp] theorem x_SetLk : sSetLk j i ma ρ = match ρ[i]? with
  | some (some (.own (.dct t ps))) => match ma (ρ.set i (some (.val (.dct t ps)))) with
    | .ok (.lst ds) => if ds.all D.flat then .nx (ρ.set j (some (.val (.lst ds)))) else .no
    | _ => .no
  | _ => .no := nr rfl
@[simp] theorem x_kAll0 : kAll [] ρ = .ok [] := nr rfl
@[simp] theorem x_kAll1 (k : Itm) (ks : List Itm) : kAll (k :: ks) ρ = (k.m ρ).bind fun d => (kAll ks ρ).bind fun ds => .ok (d :: ds) := nr rfl
@[simp] theorem x_setK0 (ks : List Itm) (ds : List D) : setK ρ [] ks ds = ρ := by cases ks <;> cases ds <;> rfl
@[simp] theorem x_setK1 (is : List Nat) (ks : List Itm) (ds : List D) : setK ρ (i :: is) (⟨true, ma⟩ :: ks) (d :: ds) = setK (ρ.set i (some (.own d))) is ks ds := nr rfl
@[simp] theorem x_setK2 (is : List Nat) (ks : List Itm) (ds : List D) : setK ρ (i :: is) (⟨false, ma⟩ :: ks) (d :: ds) = setK (ρ.set i (some (.val d))) is ks ds := nr rfl
@[simp] theorem x_Pk (is : List Nat) (ks : List Itm) : sPk is ks ρ = (kAll ks ρ).out ρ fun ds => .nx (setK ρ is ks ds) := nr rfl
@[simp] theorem x_subAt (v : D) : subAt i ma v ρ = match slAt ρ i with
  | some (.own o) => (ma ρ).out ρ fun k => match D.setAt o k v with
    | some o' => .nx (ρ.set i (some (.own o')))
    | none => .no
  | _ => .no := nr rfl
@[simp] theorem x_Sub2 : sSub2 i ma j mb mc ρ = (mc ρ).out ρ fun d => match d with
  | .tup [x, y] => (subAt i ma x ρ).seq (subAt j mb y)
  | _ => .no := nr rfl
@[simp] theorem x_par3 : sPar3 i j l ma mb mc ρ = (ma ρ).out ρ fun a => (mb ρ).out ρ fun b => (mc ρ).out ρ fun c => .nx (((ρ.set i (some (.val a))).set j (some (.val b))).set l (some (.val c))) := by
  show ((ma ρ).bind fun d => ((mb ρ).bind fun e => ((mc ρ).bind fun f => R.ok [f]).bind fun ds => R.ok (e :: ds)).bind fun ds => R.ok (d :: ds)).out ρ _ = _
  cases ma ρ <;> cases mb ρ <;> cases mc ρ <;> rfl
@[simp] theorem x_FldM : sFldM i c f ma ρ = (ma ρ).out ρ fun v => match slAt ρ i with
  | some (.own (.obj c' fs)) => if c' = c ∧ fs.length < 1000 then .nx (ρ.set i (some (.own (.obj c' (putFD f v fs))))) else .no
  | _ => .no := nr rfl
end

/-! ### lists -/
theorem enumL_rng {α : Type} (h : α → D) (d : α) : ∀ (l : List α) (k : Nat), enumL k (l.map h) = (List.range l.length).map fun i => D.tup [.int ((k + i : Nat) : Int), h (l.getD i d)]
  | [], k => rfl
  | x :: l, k => by
    rw [List.map_cons, List.length_cons, List.range_succ_eq_map, List.map_cons, List.map_map]
    show D.tup [.int (k : Nat), h x] :: enumL (k + 1) (l.map h) = _
    rw [enumL_rng h d l (k + 1)]
    congr 1
    refine List.map_congr_left fun i _ => ?_
    show D.tup [.int ((k + 1 + i : Nat) : Int), h (l.getD i d)] = D.tup [.int ((k + (i + 1) : Nat) : Int), h ((x :: l).getD (i + 1) d)]
    rw [show k + 1 + i = k + (i + 1) from by omega]
    rfl
theorem enum_t {α : Type} (h : α → D) (d : α) (l : List α) : enumD (.tup (l.map h)) = some ((List.range l.length).map fun i => D.tup [.int (i : Nat), h (l.getD i d)]) := by
  show some (enumL 0 _) = _
  rw [enumL_rng h d l 0]
  congr 1
  refine List.map_congr_left fun i _ => ?_
  rw [Nat.zero_add]
theorem enum_l {α : Type} (h : α → D) (d : α) (l : List α) : enumD (.lst (l.map h)) = some ((List.range l.length).map fun i => D.tup [.int (i : Nat), h (l.getD i d)]) := enum_t h d l
theorem idx_rngL {n c : Nat} (g : Nat → D) (h : c < n) : D.idx (.lst ((List.range n).map g)) (.int (c : Int)) = some (g c) := idx_l (by rw [List.getElem?_map, List.getElem?_range h]; rfl)
theorem idx_rngT {n c : Nat} (g : Nat → D) (h : c < n) : D.idx (.tup ((List.range n).map g)) (.int (c : Int)) = some (g c) := idx_t (by rw [List.getElem?_map, List.getElem?_range h]; rfl)
theorem idx_mapL {α : Type} {l : List α} {c : Nat} (g : α → D) (d : α) (h : c < l.length) : D.idx (.lst (l.map g)) (.int (c : Int)) = some (g (l.getD c d)) := idx_l (by rw [List.getElem?_map, List.getElem?_eq_getElem h, List.getD_eq_getElem?_getD, List.getElem?_eq_getElem h]; rfl)
theorem idx_mapT {α : Type} {l : List α} {c : Nat} (g : α → D) (d : α) (h : c < l.length) : D.idx (.tup (l.map g)) (.int (c : Int)) = some (g (l.getD c d)) := idx_t (by rw [List.getElem?_map, List.getElem?_eq_getElem h, List.getD_eq_getElem?_getD, List.getElem?_eq_getElem h]; rfl)
theorem idx_natsT {l : List Nat} {c : Nat} (h : c < l.length) : D.idx (.tup (nats l)) (.int (c : Int)) = some (.int (l.getD c 0 : Nat)) := idx_mapT _ 0 h
theorem idx_natsL {l : List Nat} {c : Nat} (h : c < l.length) : D.idx (.lst (nats l)) (.int (c : Int)) = some (.int (l.getD c 0 : Nat)) := idx_mapL _ 0 h
theorem setAt_map {α : Type} {l : List α} {c : Nat} (g : α → D) (x : α) (h : c < l.length) : D.setAt (.lst (l.map g)) (.int (c : Int)) (g x) = some (.lst ((l.set c x).map g)) := by
  rw [setAt_l (by simpa using h), List.map_set]
@[simp] theorem d_eq_O (x : Option Nat) (c : Nat) : D.eq (encO x) (.int (c : Int)) = some (.bl (decide (x = some c))) := by
  cases x with
  | none =>
    show (if (SeqAt.shaped D.non.py && SeqAt.shaped (D.int (c : Int)).py) = true then _ else _) = _
    rw [sh_shaped (k := 0) (d := .non) rfl, sh_shaped (k := 0) (d := .int (c : Int)) rfl]
    show some (D.bl (D.eqb .non (.int (c : Int)))) = _
    simp
  | some n =>
    show D.eq (.int n) (.int c) = _
    rw [d_eq_int]
    have : ((n : Int) = c) ↔ n = c := by omega
    simp [this]
@[simp] theorem d_isNn_O (x : Option Nat) : D.isNn (encO x) .non = some (.bl (!decide (x = none))) := by cases x <;> rfl
@[simp] theorem d_isN_O (x : Option Nat) : D.isN (encO x) .non = some (.bl (decide (x = none))) := by cases x <;> rfl
theorem idxOf_nats (x : Nat) : ∀ (l : List Nat) (n : Nat), x ∈ l → Pv.idxOf (.int x) (nats l) n = some (n + l.idxOf x)
  | [], _, h => by cases h
  | y :: l, n, h => by
    show (if (D.int (y : Int)).eqb (.int x) = true then some n else Pv.idxOf (.int x) (nats l) (n + 1)) = _
    rw [eqb_int, List.idxOf_cons]
    by_cases e : y = x
    · subst e; simp
    · have : ¬ ((y : Int) = x) := by omega
      rw [if_neg (by simpa using this), idxOf_nats x l (n + 1) (by rcases List.mem_cons.mp h with q | q; exact absurd q.symm e; exact q)]
      rw [show (y == x) = false from by simp [e]]
      simp
      omega
theorem index_nats {l : List Nat} {x : Nat} (h : x ∈ l) : mIndexL (.lst (nats l)) [.int (x : Int)] = some (.int (l.idxOf x : Nat)) := by
  show (if _ then _ else _) = _
  rw [sh_shaped (k := 1) (d := .lst (nats l)) (nats_sh 0 l), sh_shaped (k := 0) (d := .int (x : Int)) rfl, idxOf_nats x l 0 h]
  simp
theorem cut_drop {ds : List D} {t : Nat} (h : t ≤ ds.length) : cutD ds (some (t : Int)) none = ds.drop t := by
  have : HT.sIx ds.length 0 (some (t : Int)) = t := by
    unfold HT.sIx
    simp
    rw [if_neg (by omega)]
    omega
  unfold cutD
  rw [this]
  show ((ds.drop t).take (ds.length - t)) = _
  rw [List.take_of_length_le (by simp)]
theorem cut_take {ds : List D} {t : Nat} (h : t ≤ ds.length) : cutD ds none (some (t : Int)) = ds.take t := by
  have : HT.sIx ds.length ds.length (some (t : Int)) = t := by
    unfold HT.sIx
    simp
    rw [if_neg (by omega)]
    omega
  unfold cutD
  rw [this]
  show ((ds.drop 0).take (t - 0)) = _
  simp
theorem d_app {ds es : List D} (h : ds.length + es.length ≤ 1000) : D.add (.lst ds) (.lst es) = some (.lst (ds ++ es)) := by
  show (if _ then _ else _) = _
  rw [if_pos (le_lim h)]
theorem d_appT {ds es : List D} (h : ds.length + es.length ≤ 1000) : D.add (.tup ds) (.tup es) = some (.tup (ds ++ es)) := by
  show (if _ then _ else _) = _
  rw [if_pos (le_lim h)]
theorem flat_rep (n : Nat) (x : D) : (List.replicate n [x]).flatten = List.replicate n x := by
  induction n with
  | zero => rfl
  | succ n ih => rw [List.replicate_succ, List.flatten_cons, ih, List.replicate_succ]; rfl
theorem d_rep {n : Nat} (x : D) (h : 1 ≤ n) (h2 : n ≤ 1000) : D.mul (.tup [x]) (.int (n : Int)) = some (.tup (List.replicate n x)) := by
  unfold D.mul
  dsimp only
  by_cases e : n = 1
  · subst e; rfl
  · rw [if_neg (by omega), if_neg (by simp; omega), Int.toNat_natCast, flat_rep]
theorem d_repL {n : Nat} (x : D) (h2 : n ≤ 1000) : D.mul (.lst [x]) (.int (n : Int)) = some (.lst (List.replicate n x)) := by
  unfold D.mul
  dsimp only
  rw [if_neg (by simp; omega), Int.toNat_natCast, flat_rep]

/-! ### dicts of numbers -/
def dmap (L : List (Nat × Nat)) : List (D × D) := L.map fun p => (D.int (p.1 : Nat), D.int (p.2 : Nat))
theorem same_nat (y x : Nat) : D.same (.int (y : Int)) (.int (x : Int)) = decide (y = x) := by
  show decide ((y : Int) = x) = _
  by_cases h : y = x
  · simp [h]
  · simp [h, show ¬ (y : Int) = x by omega]
theorem find_dmap (c : Nat) : ∀ L : List (Nat × Nat), D.find (.int (c : Int)) (dmap L) = (L.lookup c).map fun n => D.int (n : Nat)
  | [] => rfl
  | (a, b) :: L => by
    show (if D.same (.int (a : Int)) (.int (c : Int)) = true then some (D.int (b : Nat)) else D.find (.int (c : Int)) (dmap L)) = _
    rw [same_nat, List.lookup_cons, find_dmap c L]
    by_cases e : a = c
    · subst e; simp
    · have e' : (c == a) = false := by simp; omega
      rw [e']; simp [e]
theorem idx_dmap (c : Nat) (L : List (Nat × Nat)) : D.idx (.dct false (dmap L)) (.int (c : Int)) = (L.lookup c).map fun n => D.int (n : Nat) := by
  rw [← find_dmap]; rfl
@[simp] theorem isIn_dmap (c : Nat) (L : List (Nat × Nat)) : D.isIn (.int (c : Int)) (.dct false (dmap L)) = some (.bl (L.lookup c).isSome) := by
  have := find_dmap c L
  show (if D.keyOk false (.int (c : Int)) = true then some (D.bl (D.find (.int (c : Int)) (dmap L)).isSome) else none) = _
  rw [this, if_pos (keyOk_int _)]
  cases L.lookup c <;> rfl
@[simp] theorem notIn_dmap (c : Nat) (L : List (Nat × Nat)) : D.notIn (.int (c : Int)) (.dct false (dmap L)) = some (.bl (!(L.lookup c).isSome)) := by
  unfold D.notIn; rw [isIn_dmap]
theorem put_dmap (c b : Nat) (L : List (Nat × Nat)) (h : L.lookup c = none) : D.put (dmap L) (.int (c : Int)) (.int (b : Int)) = dmap (L ++ [(c, b)]) := by
  have : ((dmap L).any fun p => p.1.same (.int (c : Int))) = false := by
    rw [List.any_eq_false]
    rintro ⟨x, y⟩ hp
    obtain ⟨⟨a, b'⟩, hq, e⟩ := List.mem_map.mp hp
    cases e
    show ¬ D.same (.int (a : Int)) (.int (c : Int)) = true
    rw [same_nat]
    intro q
    have q := of_decide_eq_true q
    subst q
    have := List.lookup_eq_none_iff.mp h (a, b') hq
    simp at this
  unfold D.put
  rw [if_neg (by rw [this]; exact Bool.false_ne_true)]
  unfold dmap
  rw [List.map_append]; rfl
theorem drop_dmap (c : Nat) (L : List (Nat × Nat)) : D.drop (dmap L) (.int (c : Int)) = dmap (L.filter fun p => !decide (p.1 = c)) := by
  unfold D.drop dmap
  rw [List.filter_map]
  congr 1
  refine List.filter_congr fun p _ => ?_
  show (!D.same (.int (p.1 : Int)) (.int (c : Int))) = _
  rw [same_nat]
theorem dmap_len (L : List (Nat × Nat)) : (dmap L).length = L.length := List.length_map _
theorem dmap_fst (L : List (Nat × Nat)) : (dmap L).map (·.1) = nats (L.map (·.1)) := by
  unfold dmap nats
  rw [List.map_map, List.map_map]; rfl
theorem lookup_mem {L : List (Nat × Nat)} {a b : Nat} (h : L.lookup a = some b) : (a, b) ∈ L := by
  induction L with
  | nil => cases h
  | cons p L ih =>
    obtain ⟨x, y⟩ := p
    rw [List.lookup_cons] at h
    by_cases e : a = x
    · subst e
      simp at h
      subst h
      simp
    · rw [show (a == x) = false from by simp [e]] at h
      exact List.mem_cons_of_mem _ (ih h)
theorem lookup_nd {L : List (Nat × Nat)} {a b : Nat} (nd : (L.map (·.1)).Nodup) (h : (a, b) ∈ L) : L.lookup a = some b := by
  induction L with
  | nil => cases h
  | cons p L ih =>
    obtain ⟨x, y⟩ := p
    rw [List.lookup_cons]
    rw [List.map_cons, List.nodup_cons] at nd
    rcases List.mem_cons.mp h with e | e
    · cases e; simp
    · have : a ≠ x := fun q => by
        subst q
        exact nd.1 (List.mem_map.mpr ⟨_, e, rfl⟩)
      rw [show (a == x) = false from by simp [this]]
      exact ih nd.2 e

/-! ### sorting -/
theorem sortD_sorted (l : List D) : (sortD l).Pairwise fun a b => dataLe false D.py a b = true :=
  List.pairwise_mergeSort (le := dataLe false D.py) (fun a b c => (PySem.W.sortLe_total _ _ _).trans a b c) (fun a b => by rw [Bool.or_eq_true]; exact (PySem.W.sortLe_total _ _ _).total a b) l
theorem strict_anti {α : Type} {le : α → α → Bool} : ∀ {m : List α}, m.Pairwise (fun a b => le b a = false) → ∀ a ∈ m, ∀ b ∈ m, le a b = true → le b a = true → a = b
  | [], _, a, ha, _, _, _, _ => by cases ha
  | x :: m, h, a, ha, b, hb, h1, h2 => by
    obtain ⟨hx, hm⟩ := List.pairwise_cons.mp h
    rcases List.mem_cons.mp ha with e | ha <;> rcases List.mem_cons.mp hb with e' | hb
    · rw [e, e']
    · rw [e, hx b hb] at h2; cases h2
    · rw [e', hx a ha] at h1; cases h1
    · exact strict_anti hm a ha b hb h1 h2
/-- a strictly rising list of the same is what sorting gives -/
theorem sortD_one {l m : List D} (p : l.Perm m) (h : m.Pairwise fun a b => dataLe false D.py a b = true ∧ dataLe false D.py b a = false) : sortD l = m :=
  List.Perm.eq_of_pairwise (fun a b ha hb h1 h2 => strict_anti (le := dataLe false D.py) (h.imp fun q => q.2) a ((List.mergeSort_perm l _).trans p |>.mem_iff.mp ha) b hb h1 h2) (sortD_sorted l) (h.imp fun q => q.1) ((List.mergeSort_perm l _).trans p)
end L2.Pv

set_option Elab.async false
set_option linter.all false
set_option maxRecDepth 100000
set_option maxHeartbeats 4000000
set_option autoImplicit false
/-! States as data; more of steps. -/
namespace L2.Pv
open PySem PySem.Spec PyProof.Rows
open PySem.W (dataLe)

theorem runM_q (n : Nat) (m : SM) (ds : List D) : runM n m ds = match m (startE n ds) with
  | .rt d => .ok d
  | .nx _ => .ok .non
  | .rs x _ => .ex x
  | _ => .no := nr (by unfold runM; cases m (startE n ds) <;> rfl)
theorem startE_q (n : Nat) (ds : List D) : startE n ds = ds.map (fun d => some (.val d)) ++ List.replicate (n - ds.length) none := nr rfl
section
variable {f : Fl} {s : Sta} {c : Nat}
@[simp] theorem Sta.enc_0 (s : Sta) : D.idx s.enc (.int 0) = some (.tup (onD s.on)) := idx_t0 _ _
@[simp] theorem Sta.enc_1 (s : Sta) : D.idx s.enc (.int 1) = some (.tup (nats s.turns)) := idx_t1 _ _ _
@[simp] theorem Sta.enc_2 (s : Sta) : D.idx s.enc (.int 2) = some (.tup (nats s.waits)) := idx_t2 _ _ _ _
theorem sta_on (S : f.SOk s) (h : c < f.size) : D.idx (.tup (onD s.on)) (.int (c : Int)) = some (.str (kindO (s.onAt c))) := idx_mapT _ none (by rw [S.l1]; exact h)
theorem sta_turn (S : f.SOk s) (h : c < f.size) : D.idx (.tup (nats s.turns)) (.int (c : Int)) = some (.int (s.turnAt c : Nat)) := idx_natsT (by rw [S.l2]; exact h)
theorem sta_wait (S : f.SOk s) (h : c < f.size) : D.idx (.tup (nats s.waits)) (.int (c : Int)) = some (.int (s.waitAt c : Nat)) := idx_natsT (by rw [S.l3]; exact h)
theorem kindO_ok {o : Option Nat} (h : ∀ k, o = some k → k < 3) : PyData.strOk (kindO o) = true := by
  cases o with
  | none => exact ok_lit _
  | some k => exact kindS_ok (Nat.lt_trans (h k rfl) (by decide))
theorem kindO_free {o : Option Nat} : kindO o = Str.ofString "." ↔ o = none := by
  cases o with
  | none => simp [kindO]
  | some k =>
    simp only [kindO, kindS, Str.ofString_eq_toList]
    simp
    intro h
    omega
theorem kindO_inj {o p : Option Nat} (h : kindO o = kindO p) : o = p := by
  cases o with
  | none => exact (kindO_free.mp h.symm).symm
  | some k =>
    cases p with
    | none => exact kindO_free.mp h
    | some j => rw [kindS_inj h]
theorem eq_free {o : Option Nat} (h : ∀ k, o = some k → k < 3) : D.eq (.str (kindO o)) (.str (Str.ofString ".")) = some (.bl (decide (o = none))) := by
  rw [d_eq_str _ _ (kindO_ok h) (ok_lit _)]
  simp [kindO_free]
theorem ne_free {o : Option Nat} (h : ∀ k, o = some k → k < 3) : D.ne (.str (kindO o)) (.str (Str.ofString ".")) = some (.bl (!decide (o = none))) := by
  rw [d_ne_str _ _ (kindO_ok h) (ok_lit _)]
  simp [kindO_free]
theorem Fl.SOk.kind (S : f.SOk s) (h : c < f.size) : ∀ k, s.onAt c = some k → k < 3 := fun k e => (S.on c h k e).1
theorem on_free (S : f.SOk s) (h : c < f.size) : D.eq (.str (kindO (s.onAt c))) (.str (Str.ofString ".")) = some (.bl (decide (s.onAt c = none))) := eq_free (S.kind h)
theorem on_nfree (S : f.SOk s) (h : c < f.size) : D.ne (.str (kindO (s.onAt c))) (.str (Str.ofString ".")) = some (.bl (!decide (s.onAt c = none))) := ne_free (S.kind h)
@[simp] theorem word_parter (c : Cell) : c.word = Str.ofString "parter" ↔ c.isP = true := by cases c <;> simp [Cell.word, Cell.isP]
theorem fdiv_two (t : Nat) : D.fdiv (.int (t : Int)) (.int 2) = some (.int (t / 2 : Nat)) := by rw [d_fdiv _ _ (by decide) (by decide)]; simp
theorem fdiv_one (t : Nat) : D.fdiv (.int (t : Int)) (.int 1) = some (.int (t : Nat)) := by rw [d_fdiv _ _ (by decide) (by decide)]; simp
theorem mod_two (t : Nat) : D.mod (.int (t : Int)) (.int 2) = some (.int (t % 2 : Nat)) := by rw [d_mod _ _ (by decide)]; simp
theorem mod_nat {n : Nat} (t : Nat) (h : 0 < n) : D.mod (.int (t : Int)) (.int (n : Int)) = some (.int (t % n : Nat)) := by rw [d_mod _ _ (by omega)]; simp
theorem add_nat (a b : Nat) : D.add (.int (a : Int)) (.int (b : Int)) = some (.int (a + b : Nat)) := by rw [d_add]; simp
theorem add_one (a : Nat) : D.add (.int (a : Int)) (.int 1) = some (.int (a + 1 : Nat)) := by rw [d_add]; simp
theorem eq_nat (a b : Nat) : D.eq (.int (a : Int)) (.int (b : Int)) = some (.bl (decide (a = b))) := by
  rw [d_eq_int]
  have : ((a : Int) = b) ↔ a = b := by omega
  simp [this]
theorem two_cases (t : Nat) : ((t : Int) % 2 = 0 ∧ t % 2 = 0) ∨ ((t : Int) % 2 = 1 ∧ t % 2 = 1) := by omega
theorem goals_cases (f : Fl) (c : Nat) : f.goals c = [] ∨ (∃ g, f.goals c = [g]) ∨ ∃ g h, f.goals c = [g, h] := by
  have := goals_len f c
  match h : f.goals c with
  | [] => exact .inl rfl
  | [g] => exact .inr (.inl ⟨g, rfl⟩)
  | [g, k] => exact .inr (.inr ⟨g, k, rfl⟩)
  | _ :: _ :: _ :: _ => rw [h] at this; simp at this
theorem rot_map (l : List Nat) {t : Nat} (h : l ≠ [] → t < l.length) : (List.range l.length).map (fun i => l.getD ((t + i) % l.length) 0) = rotN l t := by
  by_cases hl : l = []
  · subst hl; simp [rotN]
  have ht := h hl
  refine List.ext_getElem (by unfold rotN; simp; omega) fun i h1 h2 => ?_
  have hi : i < l.length := by simpa using h1
  rw [List.getElem_map, List.getElem_range, List.getD_eq_getElem?_getD]
  show _ = (l.drop t ++ l.take t)[i]'(by simpa [rotN] using h2)
  rw [List.getElem_append]
  split
  · rename_i q
    have q : i < l.length - t := by simpa using q
    rw [List.getElem_drop, Nat.mod_eq_of_lt (by omega), List.getElem?_eq_getElem (by omega)]
    rfl
  · rename_i q
    have q : ¬ i < l.length - t := by simpa using q
    rw [List.getElem_take]
    have e : (t + i) % l.length = i - (l.length - t) := by
      rw [show t + i = i - (l.length - t) + l.length from by omega, Nat.add_mod_right, Nat.mod_eq_of_lt (by omega)]
    rw [e, List.getElem?_eq_getElem (by omega)]
    simp
theorem foldR_find {α β : Type} (g : α → β) (p : β → Bool) (enc : β → D) : ∀ xs : List α, foldR (fun (_ : Unit) x => if p (g x) = true then .inr (enc (g x)) else .inl ()) xs () = (match (xs.map g).find? p with
  | some o => .inr (enc o)
  | none => .inl ())
  | [] => rfl
  | x :: xs => by
    rw [List.map_cons, List.find?_cons]
    unfold foldR
    cases p (g x) with
    | true => rfl
    | false => exact foldR_find g p enc xs
theorem nats_eq0 (l : List Nat) : D.eq (.lst (nats l)) (.lst []) = some (.bl (decide (l = []))) := nats_eq l []
theorem nats_ne0 (l : List Nat) : D.ne (.lst (nats l)) (.lst []) = some (.bl (!decide (l = []))) := nats_ne l []
theorem foldl_snoc {α β : Type} (g : α → β) : ∀ (xs : List α) (l : List β), xs.foldl (fun l x => l ++ [g x]) l = l ++ xs.map g
  | [], l => by simp
  | x :: xs, l => by rw [List.foldl_cons, foldl_snoc g xs]; simp
def snocO {β : Type} (l : List β) : Option β → List β
  | some y => l ++ [y]
  | none => l
@[simp] theorem snocO_some {β : Type} (l : List β) (y : β) : snocO l (some y) = l ++ [y] := nr rfl
@[simp] theorem snocO_none {β : Type} (l : List β) : snocO l none = l := nr rfl
theorem foldl_opt {α β : Type} (g : α → Option β) : ∀ (xs : List α) (l : List β), xs.foldl (fun l x => snocO l (g x)) l = l ++ xs.filterMap g
  | [], l => by simp
  | x :: xs, l => by
    rw [List.foldl_cons, foldl_opt g xs]
    cases h : g x <;> simp [h]
theorem enum_on {f : Fl} {s : Sta} (S : f.SOk s) : enumD (.tup (onD s.on)) = some ((List.range f.size).map fun i => D.tup [.int (i : Nat), .str (kindO (s.onAt i))]) := by
  have := enum_t (fun o => D.str (kindO o)) none s.on
  rw [S.l1] at this
  exact this
theorem enum_cells2 (f : Fl) : enumD (.tup (f.cells.map Cell.enc)) = some ((List.range f.size).map fun i => D.tup [.int (i : Nat), (f.at i).enc]) := enum_t Cell.enc .wall f.cells
theorem enum_waits {f : Fl} {s : Sta} (S : f.SOk s) : enumD (.tup (nats s.waits)) = some ((List.range f.size).map fun i => D.tup [.int (i : Nat), .int (s.waitAt i : Nat)]) := by
  have := enum_t (fun n : Nat => D.int n) 0 s.waits
  rw [S.l3] at this
  exact this
theorem range_get2 {n i x : Nat} (h : (List.range n)[i]? = some x) : i < n ∧ i = x := by
  obtain ⟨h1, h2⟩ := List.getElem?_eq_some_iff.mp h
  exact ⟨by simpa using h1, by simpa using h2⟩
/-! ### who is let -/
def Fl.lets (f : Fl) (s : Sta) : List (Nat × Nat) := (List.range f.size).filterMap fun c => (f.winner s c).map fun o => (o, c)
theorem mem_lets {o : Nat} : (o, c) ∈ f.lets s ↔ f.winner s c = some o ∧ c < f.size := by
  unfold Fl.lets
  rw [List.mem_filterMap]
  constructor
  · rintro ⟨a, ha, e⟩
    cases h : f.winner s a with
    | none => rw [h] at e; cases e
    | some g' => rw [h] at e; cases e; exact ⟨h, List.mem_range.mp ha⟩
  · intro ⟨h, hc⟩
    exact ⟨c, List.mem_range.mpr hc, by rw [h]; rfl⟩
theorem lets_fst : (f.lets s).map (·.1) = (List.range f.size).filterMap (f.winner s) := by
  unfold Fl.lets
  rw [List.map_filterMap]
  congr 1
  funext c
  cases f.winner s c <;> rfl
theorem winner_inj {g g' o : Nat} (h : f.winner s g = some o) (h' : f.winner s g' = some o) : g = g' := by
  have := (winner_wish h).1
  rw [(winner_wish h').1] at this
  cases this; rfl
theorem lets_nd : ((f.lets s).map (·.1)).Nodup := by
  rw [lets_fst]
  refine List.Pairwise.filterMap _ (fun a a' ne b hb b' hb' e => ?_) List.nodup_range
  subst e
  exact ne (winner_inj hb hb')
theorem lookup_lets (ok : f.Ok) (o : Nat) : (f.lets s).lookup o = f.letTo s o := by
  cases h : f.letTo s o with
  | some g => exact lookup_nd lets_nd (mem_lets.mpr ⟨letTo_iff.mp h, letTo_lt ok h⟩)
  | none =>
    cases q : (f.lets s).lookup o with
    | none => rfl
    | some g =>
      have := letTo_iff.mpr (mem_lets.mp (lookup_mem q)).1
      rw [h] at this; cases this
theorem winner_head (f : Fl) (s : Sta) (c : Nat) : ((rotN (f.comers c) (f.base s c)).filter fun o => decide (f.wish s o = some c)).head? = f.winner s c := List.head?_filter
theorem base_le (S : f.SOk s) (h : c < f.size) : f.base s c ≤ (f.comers c).length := by
  have := base_lt' S h
  unfold Fl.many at this
  omega
theorem slice_drop {l : List Nat} {t : Nat} (h : t ≤ l.length) : D.slice (.lst (nats l)) (some (t : Int)) none = some (.lst (nats (l.drop t))) := by
  show some (D.lst _) = _
  rw [cut_drop (by rw [nats_len]; exact h)]
  unfold nats
  rw [List.map_drop]
theorem slice_take {l : List Nat} {t : Nat} (h : t ≤ l.length) : D.slice (.lst (nats l)) none (some (t : Int)) = some (.lst (nats (l.take t))) := by
  show some (D.lst _) = _
  rw [cut_take (by rw [nats_len]; exact h)]
  unfold nats
  rw [List.map_take]
theorem lets_len (f : Fl) (s : Sta) : (f.lets s).length ≤ f.size := Nat.le_trans (List.length_filterMap_le _ _) (by simp)
theorem fm_filter {α β : Type} (h : α → Option β) (q : α → Bool) (g : α → β) : ∀ xs : List α, (∀ x ∈ xs, h x = if q x = true then some (g x) else none) → xs.filterMap h = (xs.filter q).map g
  | [], _ => rfl
  | x :: xs, H => by
    have ih := fm_filter h q g xs fun y hy => H y (List.mem_cons_of_mem _ hy)
    have hx := H x List.mem_cons_self
    by_cases e : q x = true
    · rw [List.filterMap_cons_some (by rw [hx, if_pos e]), List.filter_cons_of_pos e, ih]; rfl
    · rw [List.filterMap_cons_none (by rw [hx, if_neg e]), List.filter_cons_of_neg e, ih]
theorem sortX_dmap {L : List (Nat × Nat)} (h : L.length < 64) : bSortX [.dct false (dmap L)] = some (.lst (nats (sortN (L.map (·.1))))) := by
  have := sortX_nats (l := L.map (·.1)) (by simpa using h)
  have e : bSorted [.dct false (dmap L)] = bSorted [.lst (nats (L.map (·.1)))] := by
    show (D.ints ((dmap L).map (·.1))).bind _ = (D.ints (nats (L.map (·.1)))).bind _
    rw [dmap_fst]
  unfold bSortX
  rw [e, sorted_nats (by simpa using h)]
theorem range_sorted (n : Nat) : (List.range n).Pairwise (· ≤ ·) := List.pairwise_le_range
theorem lets_keys (ok : f.Ok) : sortN ((f.lets s).map (·.1)) = (List.range f.size).filter fun c => (f.letTo s c).isSome := by
  refine sortN_one ((List.perm_ext_iff_of_nodup lets_nd (List.nodup_range.filter _)).mpr fun c => ?_) ((range_sorted _).filter _)
  rw [lets_fst, List.mem_filterMap, List.mem_filter]
  constructor
  · rintro ⟨g, hg, e⟩
    have := letTo_iff.mpr e
    exact ⟨List.mem_range.mpr (letTo_lt' ok this), by rw [this]; rfl⟩
  · rintro ⟨hc, e⟩
    obtain ⟨g, hg⟩ := Option.isSome_iff_exists.mp e
    exact ⟨g, List.mem_range.mpr (letTo_lt ok hg), letTo_iff.mp hg⟩
def encP (p : Nat × Nat) : D := .tup [.int (p.1 : Nat), .int (p.2 : Nat)]
theorem moves_eq (ok : f.Ok) : ((sortN ((f.lets s).map (·.1))).filter fun c => f.go s c).map (fun c => ((c, ((f.lets s).lookup c).getD 0) : Nat × Nat)) = f.moves s := by
  rw [lets_keys ok, List.filter_filter]
  unfold Fl.moves
  symm
  refine fm_filter _ _ _ _ fun c hc => ?_
  rw [lookup_lets ok]
  cases h : f.letTo s c with
  | none =>
    have : f.out s c = none := by unfold Fl.out; rw [h]
    rw [this]; simp
  | some g =>
    cases q : f.go s c with
    | true =>
      rw [out_iff.mpr ⟨h, q⟩]; simp
    | false =>
      rw [out_none.mpr q]; simp
/-! ### who moves: taken out, round by round -/
def Fl.mv (f : Fl) (s : Sta) : List (Nat × Nat) := (f.lets s).filter fun p => f.go s p.1
def heldL (s : Sta) (L : List (Nat × Nat)) : List Nat := (L.filter fun p => decide (s.onAt p.2 ≠ none) && !(L.lookup p.2).isSome).map (·.1)
abbrev MvS := Option (List Nat) × List (Nat × Nat)
def mvCond (z : MvS) : Bool := match z.1 with
  | none => true
  | some l => !l.isEmpty
def mvStep (s : Sta) (z : MvS) : MvS := (some (heldL s z.2), z.2.filter fun p => !decide (p.1 ∈ heldL s z.2))
def mvMeas (z : MvS) : Nat := z.2.length + if mvCond z = true then 1 else 0
structure MvOk (f : Fl) (s : Sta) (z : MvS) : Prop where
  sub : ∃ q, z.2 = (f.lets s).filter q
  all : ∀ c g, f.letTo s c = some g → f.go s c = true → (c, g) ∈ z.2
  cl : z.1 = some [] → ∀ p ∈ z.2, s.onAt p.2 = none ∨ (z.2.lookup p.2).isSome = true
theorem MvOk.nd {z : MvS} (h : MvOk f s z) : (z.2.map (·.1)).Nodup := by
  obtain ⟨q, e⟩ := h.sub
  rw [e]
  exact (lets_nd (f := f) (s := s)).sublist (List.filter_sublist.map _)
theorem MvOk.mem {z : MvS} (h : MvOk f s z) {p : Nat × Nat} (hp : p ∈ z.2) : p ∈ f.lets s := by
  obtain ⟨q, e⟩ := h.sub
  rw [e] at hp
  exact (List.mem_filter.mp hp).1
theorem mem_held {L : List (Nat × Nat)} {c : Nat} : c ∈ heldL s L ↔ ∃ g, (c, g) ∈ L ∧ s.onAt g ≠ none ∧ L.lookup g = none := by
  unfold heldL
  rw [List.mem_map]
  constructor
  · rintro ⟨⟨a, b⟩, h, rfl⟩
    obtain ⟨h1, h2⟩ := List.mem_filter.mp h
    rw [Bool.and_eq_true] at h2
    refine ⟨b, h1, of_decide_eq_true h2.1, ?_⟩
    have h3 := h2.2
    dsimp only at h3
    cases q : L.lookup b with
    | none => rfl
    | some _ => rw [q] at h3; cases h3
  · rintro ⟨g, h, h1, h2⟩
    exact ⟨(c, g), List.mem_filter.mpr ⟨h, by simp [h1, h2]⟩, rfl⟩
theorem mv_step (ok : f.Ok) {z : MvS} (h : MvOk f s z) : MvOk f s (mvStep s z) where
  sub := by
    obtain ⟨q, e⟩ := h.sub
    refine ⟨fun p => !decide (p.1 ∈ heldL s z.2) && q p, ?_⟩
    unfold mvStep
    dsimp only
    conv => lhs; rw [e]
    rw [List.filter_filter, ← e]
  all := fun c g hl hg => by
    have hm := h.all c g hl hg
    refine List.mem_filter.mpr ⟨hm, ?_⟩
    have : c ∉ heldL s z.2 := fun hh => by
      obtain ⟨g', h1, h2, h3⟩ := mem_held.mp hh
      have e := lookup_nd h.nd h1
      rw [lookup_nd h.nd hm] at e
      cases e
      rcases (go_step ok hl).mp hg with q | q
      · exact h2 q
      · obtain ⟨g2, hg2⟩ := go_let q
        rw [lookup_nd h.nd (h.all g g2 hg2 q)] at h3
        cases h3
    simpa using this
  cl := fun he p hp => by
    have he : some (heldL s z.2) = some [] := he
    injection he with he
    have e : (mvStep s z).2 = z.2 := by
      unfold mvStep
      dsimp only
      rw [he]
      simp
    rw [e] at hp ⊢
    by_cases h1 : s.onAt p.2 = none
    · exact .inl h1
    · right
      cases q : z.2.lookup p.2 with
      | some _ => rfl
      | none =>
        have : p.1 ∈ heldL s z.2 := mem_held.mpr ⟨p.2, hp, h1, q⟩
        rw [he] at this; cases this
theorem mv_meas {z : MvS} (hc : mvCond z = true) : mvMeas (mvStep s z) < mvMeas z := by
  unfold mvMeas
  rw [if_pos hc]
  have hle : (mvStep s z).2.length ≤ z.2.length := List.length_filter_le _ _
  by_cases e : heldL s z.2 = []
  · have : mvCond (mvStep s z) = false := by unfold mvCond mvStep; rw [e]; rfl
    rw [if_neg (by rw [this]; exact Bool.false_ne_true)]
    omega
  · obtain ⟨c, hc'⟩ := List.exists_mem_of_ne_nil _ e
    obtain ⟨g, h1, _⟩ := mem_held.mp hc'
    have : (mvStep s z).2.length < z.2.length := by
      unfold mvStep
      refine List.length_filter_lt_length_iff_exists.mpr ⟨_, h1, ?_⟩
      simp [hc']
    split <;> omega
theorem mv_zero (ok : f.Ok) : MvOk f s (none, f.lets s) :=
  ⟨⟨fun _ => true, (List.filter_eq_self.mpr fun _ _ => rfl).symm⟩, fun c g hl _ => mem_lets.mpr ⟨letTo_iff.mp hl, letTo_lt ok hl⟩, fun e => by cases e⟩
theorem mv_done (ok : f.Ok) {z : MvS} (h : MvOk f s z) (hc : mvCond z = false) : z.2 = f.mv s := by
  have e1 : z.1 = some [] := by
    unfold mvCond at hc
    split at hc
    · cases hc
    · rename_i l e
      rw [e]
      cases l with
      | nil => rfl
      | cons _ _ => cases hc
  have cl := h.cl e1
  have key : ∀ c, (∃ g, (c, g) ∈ z.2) → f.go s c = true := fun c hcg => go_max ok (fun c => ∃ g, (c, g) ∈ z.2) (fun c ⟨g, hg⟩ => by
    refine ⟨g, letTo_iff.mpr (mem_lets.mp (h.mem hg)).1, ?_⟩
    rcases cl _ hg with q | q
    · exact .inl q
    · obtain ⟨g', hg'⟩ := Option.isSome_iff_exists.mp q
      exact .inr ⟨g', lookup_mem hg'⟩) hcg
  obtain ⟨q, e⟩ := h.sub
  unfold Fl.mv
  rw [e]
  refine List.filter_congr fun p hp => ?_
  rw [Bool.eq_iff_iff]
  constructor
  · intro hq
    exact key p.1 ⟨p.2, by rw [e]; exact List.mem_filter.mpr ⟨hp, hq⟩⟩
  · intro hg
    have := h.all p.1 p.2 (letTo_iff.mpr (mem_lets.mp hp).1) hg
    rw [e] at this
    exact (List.mem_filter.mp this).2
end
end L2.Pv

set_option Elab.async false
set_option linter.all false
set_option maxRecDepth 100000
set_option maxHeartbeats 4000000
set_option autoImplicit false
/-! What a step leaves, place by place; sorting of rows. -/
namespace L2.Pv
open PySem PySem.Spec PyProof.Rows
open PySem.W (dataLe sortLe keyToks keyToksAll alike alikeAll sortLe_total)

/-! ### sorting of rows -/
def ltD (a b : D) : Bool := lexLt itemOrd (keyToks a.py) (keyToks b.py)
theorem dataLe_lt (a b : D) : dataLe false D.py a b = !ltD b a := rfl
theorem ltD_asym {a b : D} (h : ltD a b = true) : ltD b a = false := by
  cases q : ltD b a with
  | false => rfl
  | true =>
    have := (listOrd itemOrd).trans _ _ _ h q
    rw [(listOrd itemOrd).irrefl] at this
    cases this
theorem ltD_head {x y : Int} (h : x < y) (r s : List D) : ltD (.tup (.int x :: r)) (.tup (.int y :: s)) = true := by
  show lexLt itemOrd (.inl 1 :: .inl x :: keyToksAll (D.pys r)) (.inl 1 :: .inl y :: keyToksAll (D.pys s)) = true
  refine lex_true.mpr (.inr ⟨by decide, lex_true.mpr (.inl ?_)⟩)
  exact decide_eq_true h
theorem ltD_next (d : Int) (r s : List D) : ltD (.tup (.int d :: r)) (.tup (.int d :: s)) = ltD (.tup r) (.tup s) :=
  PySem.W.lex_pre [.inl 1, .inl d] (keyToksAll (D.pys r)) (keyToksAll (D.pys s))
theorem ltD_kind {k j : Nat} (h : k < j) (r s : List D) : ltD (.tup (.str (kindS k) :: r)) (.tup (.str (kindS j) :: s)) = true := by
  show lexLt itemOrd (.inl 1 :: .inr [97 + k] :: keyToksAll (D.pys r)) (.inl 1 :: .inr [97 + j] :: keyToksAll (D.pys s)) = true
  refine lex_true.mpr (.inr ⟨by decide, lex_true.mpr (.inl ?_)⟩)
  show decide ([97 + k] < [97 + j]) = true
  refine decide_eq_true ?_
  rw [List.cons_lt_cons_iff]
  exact .inl (by omega)
theorem sortD_lt {l m : List D} (p : l.Perm m) (h : m.Pairwise fun a b => ltD a b = true) : sortD l = m :=
  sortD_one p (h.imp fun q => by rw [dataLe_lt, dataLe_lt, ltD_asym q, q]; exact ⟨rfl, rfl⟩)
structure Rows (m : List D) : Prop where
  al : ∀ a ∈ m, ∀ b ∈ m, alike a.py b.py = true
  tu : ∀ a ∈ m, ∃ d r, a = D.tup (d :: r)
  sh : ∀ a ∈ m, D.sh 60 a = true
theorem Rows.perm {l m : List D} (p : l.Perm m) (R : Rows m) : Rows l := ⟨fun a ha b hb => R.al a (p.mem_iff.mp ha) b (p.mem_iff.mp hb), fun a ha => R.tu a (p.mem_iff.mp ha), fun a ha => R.sh a (p.mem_iff.mp ha)⟩
theorem Rows.ok {l : List D} (R : Rows l) : sortOk l = true := by
  unfold sortOk
  simp only [Bool.and_eq_true, Bool.or_eq_true, List.all_eq_true]
  refine ⟨⟨fun a ha b hb => R.al a ha b hb, .inl fun a ha => ?_⟩, R.sh⟩
  obtain ⟨d, r, e⟩ := R.tu a ha
  rw [e]
theorem sortX_lt {l m : List D} (p : l.Perm m) (h : m.Pairwise fun a b => ltD a b = true) (R : Rows m) (hl : l.length ≤ 1000) : bSortX [.lst l] = some (.lst m) := by
  cases l with
  | nil => rw [List.nil_perm.mp p]; rfl
  | cons a r =>
    have hb : bSorted [.lst (a :: r)] = none := by
      obtain ⟨d, t, e⟩ := (R.perm p).tu a List.mem_cons_self
      subst e; rfl
    unfold bSortX
    rw [hb]
    show (if _ then _ else _) = _
    rw [if_pos (by rw [(R.perm p).ok]; simpa using le_lim hl), sortD_lt p h]
theorem encP_lt {p q : Nat × Nat} (h : p.1 < q.1) : ltD (encP p) (encP q) = true := ltD_head (by omega) _ _
theorem encP_rows (M : List (Nat × Nat)) : Rows (M.map encP) where
  al := fun a ha b hb => by
    obtain ⟨p, _, rfl⟩ := List.mem_map.mp ha
    obtain ⟨q, _, rfl⟩ := List.mem_map.mp hb
    rfl
  tu := fun a ha => by
    obtain ⟨p, _, rfl⟩ := List.mem_map.mp ha
    exact ⟨_, _, rfl⟩
  sh := fun a ha => by
    obtain ⟨p, _, rfl⟩ := List.mem_map.mp ha
    rfl
section
variable {f : Fl} {s : Sta} {c : Nat}
theorem mv_nd : ((f.mv s).map (·.1)).Nodup := (lets_nd (f := f) (s := s)).sublist (List.filter_sublist.map _)
theorem mem_mv (ok : f.Ok) {p : Nat × Nat} : p ∈ f.mv s ↔ f.out s p.1 = some p.2 := by
  unfold Fl.mv
  rw [List.mem_filter, show p ∈ f.lets s ↔ f.winner s p.2 = some p.1 ∧ p.2 < f.size from mem_lets, out_iff, letTo_iff]
  exact ⟨fun h => ⟨h.1.1, h.2⟩, fun h => ⟨⟨h.1, letTo_lt ok (letTo_iff.mpr h.1)⟩, h.2⟩⟩
theorem lookup_mv (ok : f.Ok) (o : Nat) : (f.mv s).lookup o = f.out s o := by
  cases h : f.out s o with
  | some g => exact lookup_nd mv_nd ((mem_mv ok (p := (o, g))).mpr h)
  | none =>
    cases q : (f.mv s).lookup o with
    | none => rfl
    | some g =>
      have := (mem_mv ok).mp (lookup_mem q)
      rw [h] at this; cases this
theorem nd_of_map {α β : Type} (g : α → β) : ∀ {l : List α}, (l.map g).Nodup → l.Nodup
  | [], _ => List.nodup_nil
  | x :: l, h => by
    rw [List.map_cons, List.nodup_cons] at h
    exact List.nodup_cons.mpr ⟨fun hx => h.1 (List.mem_map.mpr ⟨x, hx, rfl⟩), nd_of_map g h.2⟩
theorem moves_fst (f : Fl) (s : Sta) : (f.moves s).map (·.1) = (List.range f.size).filter fun c => (f.out s c).isSome := by
  unfold Fl.moves
  rw [fm_filter _ (fun c => (f.out s c).isSome) (fun c => (c, (f.out s c).getD 0)) _ fun c _ => ?_]
  · rw [List.map_map]
    exact List.map_id _
  · cases f.out s c <;> rfl
theorem moves_nd : ((f.moves s).map (·.1)).Nodup := by rw [moves_fst]; exact List.nodup_range.filter _
theorem mv_perm (ok : f.Ok) : (f.mv s).Perm (f.moves s) :=
  (List.perm_ext_iff_of_nodup (nd_of_map _ mv_nd) (nd_of_map _ moves_nd)).mpr fun p => by rw [mem_mv ok]; exact (mem_moves ok (c := p.1) (g := p.2)).symm
theorem moves_lt (f : Fl) (s : Sta) : (f.moves s).Pairwise fun p q => p.1 < q.1 := by
  have : ((f.moves s).map (·.1)).Pairwise (· < ·) := by rw [moves_fst]; exact List.pairwise_lt_range.filter _
  rwa [List.pairwise_map] at this
theorem mv_len (f : Fl) (s : Sta) : (f.mv s).length ≤ f.size := Nat.le_trans (List.length_filter_le _ _) (lets_len f s)
theorem items_mv (ok : f.Ok) : bItems (.dct false (dmap (f.mv s))) = some (.lst ((f.moves s).map encP)) := by
  have e : pairsD (dmap (f.mv s)) = (f.mv s).map encP := by unfold pairsD dmap; rw [List.map_map]; rfl
  have hs := Fl.size_le ok
  have hl := mv_len f s
  show (if _ then _ else _) = _
  rw [e, if_pos, sortD_lt ((mv_perm ok).map encP) ((List.pairwise_map.mpr ((moves_lt f s).imp fun h => encP_lt h)))]
  rw [(encP_rows (f.mv s)).ok]
  simp [dmap_len, le_lim (show (f.mv s).length ≤ 1000 by omega)]
  intro a b h
  obtain ⟨p, _, e⟩ := List.mem_map.mp (show (a, b) ∈ List.map _ _ from h)
  cases e; exact ⟨rfl, rfl⟩
end
end L2.Pv

set_option Elab.async false
set_option linter.all false
set_option maxRecDepth 100000
set_option maxHeartbeats 4000000
set_option autoImplicit false
/-! What a step leaves, loop by loop. -/
namespace L2.Pv
open PySem PySem.Spec PyProof.Rows
open PySem.W (dataLe sortLe keyToks keyToksAll alike alikeAll sortLe_total)

def rngO (n : Nat) (g : Nat → Option Nat) : List D := (List.range n).map fun x => .str (kindO (g x))
def rngN (n : Nat) (g : Nat → Nat) : List D := (List.range n).map fun x => .int (g x : Nat)
@[simp] theorem rngO_len (n : Nat) (g : Nat → Option Nat) : (rngO n g).length = n := nr (by unfold rngO; simp)
@[simp] theorem rngN_len (n : Nat) (g : Nat → Nat) : (rngN n g).length = n := nr (by unfold rngN; simp)
theorem rngO_congr {n : Nat} {g h : Nat → Option Nat} (e : ∀ x, x < n → g x = h x) : rngO n g = rngO n h := by
  unfold rngO
  exact List.map_congr_left fun x hx => by rw [e x (List.mem_range.mp hx)]
theorem rngN_congr {n : Nat} {g h : Nat → Nat} (e : ∀ x, x < n → g x = h x) : rngN n g = rngN n h := by
  unfold rngN
  exact List.map_congr_left fun x hx => by rw [e x (List.mem_range.mp hx)]
theorem map_getD {α β : Type} (l : List α) (d : α) (g : α → β) : l.map g = (List.range l.length).map fun x => g (l.getD x d) := by
  refine List.ext_getElem (by simp) fun i h1 h2 => ?_
  have hi : i < l.length := by simpa using h1
  simp [List.getElem?_eq_getElem hi]
theorem set_range {α : Type} (n c : Nat) (g : Nat → α) (v : α) : ((List.range n).map g).set c v = (List.range n).map fun x => if x = c then v else g x := by
  refine List.ext_getElem (by simp) fun i h1 h2 => ?_
  rw [List.getElem_set, List.getElem_map, List.getElem_map, List.getElem_range]
  by_cases h : i = c
  · rw [if_pos h.symm, if_pos h]
  · rw [if_neg (Ne.symm h), if_neg h]
theorem setAt_rngO {n c : Nat} (h : c < n) (g : Nat → Option Nat) (o : Option Nat) : D.setAt (.lst (rngO n g)) (.int (c : Int)) (.str (kindO o)) = some (.lst (rngO n fun x => if x = c then o else g x)) := by
  rw [setAt_l (by simpa using h)]
  unfold rngO
  rw [set_range]
  congr 2
  refine List.map_congr_left fun x _ => ?_
  dsimp only
  split <;> rfl
theorem setAt_rngN {n c : Nat} (h : c < n) (g : Nat → Nat) (o : Nat) : D.setAt (.lst (rngN n g)) (.int (c : Int)) (.int (o : Nat)) = some (.lst (rngN n fun x => if x = c then o else g x)) := by
  rw [setAt_l (by simpa using h)]
  unfold rngN
  rw [set_range]
  congr 2
  refine List.map_congr_left fun x _ => ?_
  dsimp only
  split <;> rfl
theorem idx_rngO {n c : Nat} (h : c < n) (g : Nat → Option Nat) : D.idx (.lst (rngO n g)) (.int (c : Int)) = some (.str (kindO (g c))) := idx_rngL _ h
theorem idx_rngN {n c : Nat} (h : c < n) (g : Nat → Nat) : D.idx (.lst (rngN n g)) (.int (c : Int)) = some (.int (g c : Nat)) := idx_rngL _ h
def encC (s : Sta) (p : Nat × Nat) : D := .tup [.int (p.1 : Nat), .str (kindO (s.onAt p.2))]
section
variable {f : Fl} {s : Sta} {c g : Nat}
theorem onD_rng (S : f.SOk s) : onD s.on = rngO f.size s.onAt := by
  have := map_getD s.on none fun o => D.str (kindO o)
  rw [S.l1] at this
  exact this
theorem turns_rng (S : f.SOk s) : nats s.turns = rngN f.size s.turnAt := by
  have := map_getD s.turns 0 fun n : Nat => D.int n
  rw [S.l2] at this
  exact this
theorem waits_rng (S : f.SOk s) : nats s.waits = rngN f.size s.waitAt := by
  have := map_getD s.waits 0 fun n : Nat => D.int n
  rw [S.l3] at this
  exact this
theorem next_enc (f : Fl) (s : Sta) : (f.next s).enc = .tup [.tup (rngO f.size (f.on2 s)), .tup (rngN f.size (f.turn1 s)), .tup (rngN f.size (f.wait1 s))] := by
  unfold Sta.enc Fl.next onD nats rngO rngN
  simp only [List.map_map]
  rfl
def Fl.onP (f : Fl) (s : Sta) (P : List (Nat × Nat)) (x : Nat) : Option Nat := if x ∈ P.map (·.2) ∧ f.at x ≠ .fin then f.on1 s x else if f.out s x = none then s.onAt x else none
def Fl.tP (f : Fl) (s : Sta) (P : List (Nat × Nat)) (x : Nat) : Nat :=
  if (f.at x).isP = true then 2 * (if x ∈ P.map (·.2) then f.base1 s x else f.base s x) + (if x ∈ P.map (·.1) then f.way1 s x else s.turnAt x % 2) else if x ∈ P.map (·.2) then f.base1 s x else f.base s x
theorem mem_sn (P : List (Nat × Nat)) (c g x : Nat) : x ∈ (P ++ [(c, g)]).map (·.2) ↔ x ∈ P.map (·.2) ∨ x = g := by rw [List.map_append, List.mem_append]; simp
theorem mem_fn (P : List (Nat × Nat)) (c g x : Nat) : x ∈ (P ++ [(c, g)]).map (·.1) ↔ x ∈ P.map (·.1) ∨ x = c := by rw [List.map_append, List.mem_append]; simp
theorem onP_nil (x : Nat) : f.onP s [] x = if f.out s x = none then s.onAt x else none := by unfold Fl.onP; simp
theorem onP_step (P : List (Nat × Nat)) (h : f.out s c = some g) (x : Nat) : f.onP s (P ++ [(c, g)]) x = if x = g ∧ f.at g ≠ .fin then s.onAt c else f.onP s P x := by
  unfold Fl.onP
  have hi := into_out.mpr h
  simp only [mem_sn]
  by_cases e : x = g
  · subst e
    by_cases q : f.at x = .fin
    · simp [-List.mem_map, q]
    · simp [-List.mem_map, q, Fl.on1, hi]
  · simp [-List.mem_map, mem_sn, mem_fn, e]
/-- all moves, in any order -/
def AllMv (f : Fl) (s : Sta) (P : List (Nat × Nat)) : Prop := ∀ p : Nat × Nat, p ∈ P ↔ f.out s p.1 = some p.2
theorem AllMv.snd {P : List (Nat × Nat)} (A : AllMv f s P) (x : Nat) : x ∈ P.map (·.2) ↔ f.into s x ≠ none := by
  rw [List.mem_map]
  constructor
  · rintro ⟨p, hp, rfl⟩ e
    rw [into_out.mpr ((A p).mp hp)] at e
    cases e
  · intro h
    cases q : f.into s x with
    | none => exact absurd q h
    | some o => exact ⟨(o, x), (A (o, x)).mpr (into_out.mp q), rfl⟩
theorem AllMv.fst {P : List (Nat × Nat)} (A : AllMv f s P) (x : Nat) : x ∈ P.map (·.1) ↔ f.out s x ≠ none := by
  rw [List.mem_map]
  constructor
  · rintro ⟨p, hp, rfl⟩ e
    rw [(A p).mp hp] at e
    cases e
  · intro h
    cases q : f.out s x with
    | none => exact absurd q h
    | some o => exact ⟨(x, o), (A (x, o)).mpr q, rfl⟩
theorem all_mv (ok : f.Ok) : AllMv f s (f.mv s) := fun _ => mem_mv ok
theorem all_moves (ok : f.Ok) : AllMv f s (f.moves s) := fun p => mem_moves ok (c := p.1) (g := p.2)
theorem onP_all (S : f.SOk s) {P : List (Nat × Nat)} (A : AllMv f s P) {x : Nat} (hx : x < f.size) : f.onP s P x = f.on1 s x := by
  unfold Fl.onP
  by_cases q : f.at x = .fin
  · rw [if_neg (by simp [-List.mem_map, q]), on_fin S hx q]
    unfold Fl.on1
    rw [on_fin S hx q]
    cases f.into s x with
    | none => rfl
    | some o =>
      dsimp only
      rw [if_pos q]
      split <;> rfl
  · by_cases e : f.into s x = none
    · rw [if_neg (by rw [A.snd]; simp [-List.mem_map, mem_sn, mem_fn, e])]
      unfold Fl.on1
      rw [e]
    · rw [if_pos ⟨(A.snd x).mpr e, q⟩]
theorem tP_nil (x : Nat) : f.tP s [] x = s.turnAt x := by
  unfold Fl.tP Fl.base
  simp
  split <;> omega
theorem tP_all {P : List (Nat × Nat)} (A : AllMv f s P) (x : Nat) : f.tP s P x = f.turn1 s x := by
  have e1 : (if x ∈ P.map (·.2) then f.base1 s x else f.base s x) = f.base1 s x := by
    by_cases e : f.into s x = none
    · rw [if_neg (by rw [A.snd]; simp [-List.mem_map, mem_sn, mem_fn, e])]
      unfold Fl.base1; rw [e]
    · rw [if_pos ((A.snd x).mpr e)]
  have e2 : (if x ∈ P.map (·.1) then f.way1 s x else s.turnAt x % 2) = f.way1 s x := by
    by_cases e : f.out s x = none
    · rw [if_neg (by rw [A.fst]; simp [-List.mem_map, mem_sn, mem_fn, e])]
      unfold Fl.way1; rw [e]
    · rw [if_pos ((A.fst x).mpr e)]
  unfold Fl.tP Fl.turn1
  rw [e1, e2]
def Fl.newT (f : Fl) (c g : Nat) : Nat := ((f.comers g).idxOf c + 1) % (f.comers g).length
/-- the goal's turn -/
def Fl.tG (f : Fl) (s : Sta) (P : List (Nat × Nat)) (c g x : Nat) : Nat := if x = g then (if (f.at g).isP = true then 2 * f.newT c g + f.tP s P g % 2 else f.newT c g) else f.tP s P x
theorem idxOf_le {l : List Nat} {x : Nat} (h : x ∈ l) (h2 : l.length = 2) : l.idxOf x ≤ 1 := by
  have := List.idxOf_lt_length_of_mem h
  omega
theorem tP_step (S : f.SOk s) (ok : f.Ok) (P : List (Nat × Nat)) (h : f.out s c = some g) (x : Nat) :
    (if x = c ∧ (f.goals c).length = 2 then f.tG s P c g c / 2 * 2 + 1 - (f.goals c).idxOf g else f.tG s P c g x) = f.tP s (P ++ [(c, g)]) x := by
  have hi := into_out.mpr h
  have hc := (out_lt ok h).1
  have hg := (out_lt ok h).2
  have b1 : f.base1 s g = f.newT c g := by unfold Fl.base1 Fl.newT; rw [hi]
  have w1 : (f.goals c).length = 2 → f.way1 s c = 1 - (f.goals c).idxOf g ∧ (f.goals c).idxOf g ≤ 1 := fun e => by
    unfold Fl.way1
    rw [h]
    exact ⟨if_pos e, idxOf_le (out_goal h).1 e⟩
  have w2 : (f.goals c).length ≠ 2 → f.way1 s c = s.turnAt c % 2 := fun e => by
    unfold Fl.way1
    rw [h]
    exact if_neg e
  have low : ∀ y, (f.at y).isP = true → y < f.size → f.tP s P y % 2 = if y ∈ P.map (·.1) then f.way1 s y else s.turnAt y % 2 := fun y hy hlt => by
    have := (way1_ok S hlt hy).1
    unfold Fl.tP
    rw [if_pos hy]
    split <;> split <;> omega
  have tg : ∀ y, y < f.size → f.tG s P c g y = if (f.at y).isP = true then 2 * (if y ∈ (P ++ [(c, g)]).map (·.2) then f.base1 s y else f.base s y) + (if y ∈ P.map (·.1) then f.way1 s y else s.turnAt y % 2) else if y ∈ (P ++ [(c, g)]).map (·.2) then f.base1 s y else f.base s y := fun y hlt => by
    unfold Fl.tG
    by_cases e : y = g
    · subst e
      rw [if_pos rfl]
      by_cases q : (f.at y).isP = true
      · rw [if_pos q, if_pos q, low y q hlt, b1]
        simp [-List.mem_map, mem_sn]
      · rw [if_neg q, if_neg q, b1]
        simp [-List.mem_map, mem_sn]
    · rw [if_neg e]
      unfold Fl.tP
      simp [-List.mem_map, mem_sn, mem_fn, e]
  by_cases e : x = c
  · subst e
    by_cases q : (f.goals x).length = 2
    · obtain ⟨w, wi⟩ := w1 q
      have hp := isP_goals q
      have lw : (if x ∈ P.map (·.1) then f.way1 s x else s.turnAt x % 2) < 2 := by
        have := (way1_ok S hc hp).1
        split <;> omega
      rw [if_pos ⟨rfl, q⟩, tg x hc, if_pos hp]
      generalize hz : (if x ∈ P.map (·.1) then f.way1 s x else s.turnAt x % 2) = z at lw
      generalize hb : (if x ∈ (P ++ [(x, g)]).map (·.2) then f.base1 s x else f.base s x) = b
      unfold Fl.tP
      rw [if_pos hp, hb, if_pos (show x ∈ (P ++ [(x, g)]).map (·.1) from (mem_fn _ _ _ _).mpr (.inr rfl)), w]
      omega
    · rw [if_neg (by simp [-List.mem_map, q]), tg x hc]
      unfold Fl.tP
      have w := w2 q
      simp [-List.mem_map, mem_fn, w]
  · rw [if_neg (by simp [-List.mem_map, mem_sn, mem_fn, e])]
    by_cases hx : x = g
    · subst hx
      rw [tg x hg]
      unfold Fl.tP
      simp [-List.mem_map, mem_sn, mem_fn, e]
    · unfold Fl.tG Fl.tP
      simp [-List.mem_map, mem_sn, mem_fn, e, hx]
theorem filter_one {l : List Nat} {p : Nat → Bool} {o : Nat} (nd : l.Nodup) (h : o ∈ l) (hp : ∀ x ∈ l, p x = true ↔ x = o) : l.filter p = [o] := by
  induction l with
  | nil => cases h
  | cons y l ih =>
    obtain ⟨h1, h2⟩ := List.nodup_cons.mp nd
    by_cases e : y = o
    · subst e
      rw [List.filter_cons_of_pos ((hp y List.mem_cons_self).mpr rfl)]
      congr 1
      rw [List.filter_eq_nil_iff]
      intro x hx q
      have := (hp x (List.mem_cons_of_mem _ hx)).mp q
      subst this
      exact h1 hx
    · rw [List.filter_cons_of_neg (fun q => e ((hp y List.mem_cons_self).mp q))]
      exact ih h2 (by rcases List.mem_cons.mp h with q | q; exact absurd q.symm e; exact q) fun x hx => hp x (List.mem_cons_of_mem _ hx)
theorem came_filter (f : Fl) (s : Sta) (c : Nat) : (f.comers c).filter (fun o => decide (f.out s o = some c)) = match f.into s c with
  | some o => [o]
  | none => [] := by
  cases h : f.into s c with
  | some o =>
    refine filter_one (comers_nd f c) (into_comer h) fun x _ => ?_
    rw [decide_eq_true_eq, ← into_out, h]
    simp [eq_comm]
  | none =>
    rw [List.filter_eq_nil_iff]
    intro x _ q
    have := into_out.mpr (of_decide_eq_true q)
    rw [h] at this; cases this
def Fl.tf (f : Fl) (p : Nat × Nat) : Option (Nat × Nat) := if f.at p.2 = .fin then some (p.2, p.1) else none
theorem told_mv (f : Fl) (s : Sta) : (f.mv s).filterMap f.tf = f.cameO s := by
  unfold Fl.mv Fl.lets Fl.cameO
  rw [List.filter_filterMap, List.filterMap_filterMap]
  congr 1
  funext c
  unfold Fl.into Fl.tf
  cases f.winner s c with
  | none => simp
  | some o => by_cases q : f.go s o = true <;> simp [q, Option.filter]
theorem cameO_lt (f : Fl) (s : Sta) : (f.cameO s).Pairwise fun p q => p.1 < q.1 := by
  unfold Fl.cameO
  refine List.Pairwise.filterMap _ (fun a a' h b hb b' hb' => ?_) List.pairwise_lt_range
  split at hb
  · split at hb'
    · cases q : f.into s a with
      | none => rw [q] at hb; cases hb
      | some o => cases q' : f.into s a' with
        | none => rw [q'] at hb'; cases hb'
        | some o' => rw [q] at hb; rw [q'] at hb'; cases hb; cases hb'; exact h
    · cases hb'
  · cases hb
theorem mem_cameO (ok : f.Ok) {p : Nat × Nat} : p ∈ f.cameO s ↔ f.at p.1 = .fin ∧ f.out s p.2 = some p.1 := by
  rw [← told_mv, List.mem_filterMap]
  constructor
  · rintro ⟨a, ha, e⟩
    unfold Fl.tf at e
    split at e
    · cases e
      exact ⟨by assumption, (mem_mv ok).mp ha⟩
    · cases e
  · intro ⟨h1, h2⟩
    exact ⟨(p.2, p.1), (mem_mv ok).mpr h2, by unfold Fl.tf; rw [if_pos h1]⟩
theorem encC_rows (ok : f.Ok) (S : f.SOk s) : Rows ((f.cameO s).map (encC s)) where
  al := fun a ha b hb => by
    obtain ⟨p, _, rfl⟩ := List.mem_map.mp ha
    obtain ⟨q, _, rfl⟩ := List.mem_map.mp hb
    rfl
  tu := fun a ha => by
    obtain ⟨p, _, rfl⟩ := List.mem_map.mp ha
    exact ⟨_, _, rfl⟩
  sh := fun a ha => by
    obtain ⟨p, hp, rfl⟩ := List.mem_map.mp ha
    have := kindO_ok (S.kind (out_lt ok ((mem_cameO ok).mp hp).2).1)
    simp [encC, D.sh, this]
theorem cameO_len (f : Fl) (s : Sta) : (f.cameO s).length ≤ f.size := Nat.le_trans (List.length_filterMap_le _ _) (by simp)
theorem sort_came (ok : f.Ok) (S : f.SOk s) {l : List (Nat × Nat)} (p : l.Perm (f.cameO s)) : bSortX [.lst (l.map (encC s))] = some (.lst ((f.cameO s).map (encC s))) := by
  refine sortX_lt (p.map _) (List.pairwise_map.mpr ((cameO_lt f s).imp fun h => ltD_head (by omega) _ _)) (encC_rows ok S) ?_
  have := Fl.size_le ok
  have := cameO_len f s
  have := p.length_eq
  simp
  omega
def Fl.onW (f : Fl) (s : Sta) (k x : Nat) : Option Nat := if x < k then f.on2 s x else f.on1 s x
def Fl.waW (f : Fl) (s : Sta) (k x : Nat) : Nat := if x < k then f.wait1 s x else s.waitAt x - 1
theorem onW_zero (n : Nat) : rngO n (f.onW s 0) = rngO n (f.on1 s) := rngO_congr fun x _ => if_neg (by omega)
theorem onW_all : rngO f.size (f.onW s f.size) = rngO f.size (f.on2 s) := rngO_congr fun x hx => if_pos hx
theorem onW_set (n k : Nat) : rngO n (f.onW s (k + 1)) = rngO n (fun x => if x = k then f.on2 s k else f.onW s k x) := rngO_congr fun x _ => by
  unfold Fl.onW
  by_cases e : x = k
  · subst e; rw [if_pos (by omega), if_pos rfl]
  · rw [if_neg e]
    by_cases q : x < k
    · rw [if_pos (by omega), if_pos q]
    · rw [if_neg (by omega), if_neg q]
theorem onW_same (n k : Nat) (h : f.on2 s k = f.on1 s k) : rngO n (f.onW s (k + 1)) = rngO n (f.onW s k) := rngO_congr fun x _ => by
  unfold Fl.onW
  by_cases e : x = k
  · subst e; rw [if_pos (by omega), if_neg (by omega), h]
  · by_cases q : x < k
    · rw [if_pos (by omega), if_pos q]
    · rw [if_neg (by omega), if_neg q]
theorem onW_at (k : Nat) : f.onW s k k = f.on1 s k := if_neg (by omega)
theorem waW_zero (n : Nat) : rngN n (f.waW s 0) = rngN n (fun x => s.waitAt x - 1) := rngN_congr fun x _ => if_neg (by omega)
theorem waW_all : rngN f.size (f.waW s f.size) = rngN f.size (f.wait1 s) := rngN_congr fun x hx => if_pos hx
theorem waW_set (n k : Nat) : rngN n (f.waW s (k + 1)) = rngN n (fun x => if x = k then f.wait1 s k else f.waW s k x) := rngN_congr fun x _ => by
  unfold Fl.waW
  by_cases e : x = k
  · subst e; rw [if_pos (by omega), if_pos rfl]
  · rw [if_neg e]
    by_cases q : x < k
    · rw [if_pos (by omega), if_pos q]
    · rw [if_neg (by omega), if_neg q]
theorem waW_same (n k : Nat) (h : f.wait1 s k = s.waitAt k - 1) : rngN n (f.waW s (k + 1)) = rngN n (f.waW s k) := rngN_congr fun x _ => by
  unfold Fl.waW
  by_cases e : x = k
  · subst e; rw [if_pos (by omega), if_neg (by omega), h]
  · by_cases q : x < k
    · rw [if_pos (by omega), if_pos q]
    · rw [if_neg (by omega), if_neg q]
theorem rngN_succ (k : Nat) (g : Nat → Nat) : rngN (k + 1) g = rngN k g ++ [.int (g k : Nat)] := by
  unfold rngN
  rw [List.range_succ, List.map_append]; rfl
theorem on1_kind (ok : f.Ok) (S : f.SOk s) (hc : c < f.size) : ∀ k, f.on1 s c = some k → k < 3 := fun k h => by
  unfold Fl.on1 at h
  split at h
  · rename_i o e
    split at h
    · cases h
    · exact S.kind (comers_lt ok (into_comer e)) k h
  · split at h
    · exact S.kind hc k h
    · cases h
theorem foldl_self {α : Type} (xs l : List α) : xs.foldl (fun l x => l ++ [x]) l = l ++ xs := by
  have := foldl_snoc (fun x : α => x) xs l
  rwa [List.map_id'] at this
theorem max0 (w : Nat) : bMax2 [.int 0, .int ((w : Int) - 1)] = some (.int (w - 1 : Nat)) := by
  show some (D.int (if (w : Int) - 1 > 0 then (w : Int) - 1 else 0)) = _
  split
  · congr 2; omega
  · congr 2; omega
end
/-- the state at the begin -/
def Fl.zero (f : Fl) : Sta := ⟨List.replicate f.size none, List.replicate f.size 0, List.replicate f.size 0⟩
theorem zero_on (f : Fl) (c : Nat) : f.zero.onAt c = none := by
  unfold Fl.zero Sta.onAt
  rw [List.getD_eq_getElem?_getD, List.getElem?_replicate]
  split <;> rfl
theorem zero_turn (f : Fl) (c : Nat) : f.zero.turnAt c = 0 := by
  unfold Fl.zero Sta.turnAt
  rw [List.getD_eq_getElem?_getD, List.getElem?_replicate]
  split <;> rfl
theorem zero_wait (f : Fl) (c : Nat) : f.zero.waitAt c = 0 := by
  unfold Fl.zero Sta.waitAt
  rw [List.getD_eq_getElem?_getD, List.getElem?_replicate]
  split <;> rfl
theorem zero_ok (f : Fl) : f.SOk f.zero where
  l1 := by simp [Fl.zero]
  l2 := by simp [Fl.zero]
  l3 := by simp [Fl.zero]
  on := fun c _ k h => by rw [zero_on] at h; cases h
  tn := fun c _ => by
    rw [zero_turn]
    unfold Fl.TurnOk Fl.many
    split
    · exact ⟨by omega, .inl rfl⟩
    · omega
  wt := fun c _ => by rw [zero_wait]; exact Nat.zero_le _
theorem zero_enc (f : Fl) : f.zero.enc = .tup [.tup (List.replicate f.size (.str ".")), .tup (List.replicate f.size (.int 0)), .tup (List.replicate f.size (.int 0))] := by
  unfold Sta.enc Fl.zero onD nats
  simp only [List.map_replicate]
  rfl
theorem Fl.size_pos {f : Fl} (ok : f.Ok) : 1 ≤ f.size := by
  unfold Fl.size
  rw [ok.len]
  exact Nat.mul_pos ok.w1 ok.h1
/-- what a step gives, as data -/
def Fl.stepD (f : Fl) (s : Sta) : D := .tup [(f.next s).enc, .lst ((f.cameO s).map (encC s))]
end L2.Pv

set_option Elab.async false
set_option linter.all false
set_option maxRecDepth 100000
set_option maxHeartbeats 4000000
set_option autoImplicit false
/-! Steps one behind the other, what came counted. -/
namespace L2.Pv
open PySem PySem.Spec PyProof.Rows
open PySem.W (dataLe sortLe keyToks keyToksAll alike alikeAll sortLe_total)

/-- a row: an end's cell, a kind -/
def encK (r : Nat × Nat) : D := .tup [.int (r.1 : Nat), .str (kindS r.2)]
section
variable {f : Fl} {s : Sta} {c g : Nat}
theorem out_kind (ok : f.Ok) (S : f.SOk s) {o : Nat} (h : f.out s o = some g) : ∃ k, s.onAt o = some k ∧ k < 3 := by
  cases q : s.onAt o with
  | none => exact absurd q (out_goal h).2
  | some k => exact ⟨k, rfl, S.kind (out_lt ok h).1 k q⟩
theorem came_enc (ok : f.Ok) (S : f.SOk s) : (f.cameO s).map (encC s) = (f.came s).map encK := by
  unfold Fl.came
  rw [List.map_map]
  refine List.map_congr_left fun p hp => ?_
  obtain ⟨k, hk, _⟩ := out_kind ok S ((mem_cameO ok).mp hp).2
  show D.tup [.int (p.1 : Nat), .str (kindO (s.onAt p.2))] = D.tup [.int (p.1 : Nat), .str (kindS ((s.onAt p.2).getD 0))]
  rw [hk]; rfl
theorem came_ok (ok : f.Ok) (S : f.SOk s) {r : Nat × Nat} (h : r ∈ f.came s) : r.1 < f.size ∧ r.2 < 3 ∧ f.at r.1 = .fin := by
  unfold Fl.came at h
  obtain ⟨p, hp, rfl⟩ := List.mem_map.mp h
  obtain ⟨h1, h2⟩ := (mem_cameO ok).mp hp
  obtain ⟨k, hk, k3⟩ := out_kind ok S h2
  refine ⟨(out_lt ok h2).2, ?_, h1⟩
  dsimp only
  rw [hk]; exact k3
theorem came_len (f : Fl) (s : Sta) : (f.came s).length ≤ f.size := by unfold Fl.came; rw [List.length_map]; exact cameO_len f s
theorem stepD_eq (ok : f.Ok) (S : f.SOk s) : f.stepD s = .tup [(f.next s).enc, .lst ((f.came s).map encK)] := by
  unfold Fl.stepD
  rw [came_enc ok S]
end
/-! ### counting -/
abbrev Cnt := List ((Nat × Nat) × Nat)
def dcnt (C : Cnt) : List (D × D) := C.map fun p => (encK p.1, D.int (p.2 : Nat))
def addC (C : Cnt) (r : Nat × Nat) : Cnt := if (C.lookup r).isSome then C.map (fun p => if p.1 = r then (p.1, (C.lookup r).getD 0 + 1) else p) else C ++ [(r, 1)]
theorem same_encK (a b : Nat × Nat) : D.same (encK a) (encK b) = decide (a = b) := by
  show decide (D.keys [.int (a.1 : Nat), .str (kindS a.2)] = D.keys [.int (b.1 : Nat), .str (kindS b.2)]) = _
  have e : ∀ r : Nat × Nat, D.keys [.int (r.1 : Nat), .str (kindS r.2)] = some [.inl (r.1 : Int), .inr (kindS r.2)] := fun r => rfl
  rw [e, e]
  by_cases h : a = b
  · subst h; simp
  · rw [decide_eq_false h, decide_eq_false]
    intro q
    apply h
    injection q with q
    injection q with q1 q2
    injection q1 with q1
    injection q2 with q2 _
    injection q2 with q2
    exact Prod.ext (by omega) (kindS_inj q2)
theorem find_dcnt (r : Nat × Nat) : ∀ C : Cnt, D.find (encK r) (dcnt C) = (C.lookup r).map fun n => D.int (n : Nat)
  | [] => rfl
  | (a, b) :: C => by
    show (if D.same (encK a) (encK r) = true then some (D.int (b : Nat)) else D.find (encK r) (dcnt C)) = _
    rw [same_encK, List.lookup_cons, find_dcnt r C]
    by_cases e : a = r
    · subst e; simp
    · have e' : (r == a) = false := by simp; exact fun q => e q.symm
      rw [e']; simp [e]
theorem any_dcnt (r : Nat × Nat) : ∀ C : Cnt, ((dcnt C).any fun p => p.1.same (encK r)) = (C.lookup r).isSome
  | [] => rfl
  | (a, b) :: C => by
    show (D.same (encK a) (encK r) || (dcnt C).any fun p => p.1.same (encK r)) = _
    rw [same_encK, List.lookup_cons, any_dcnt r C]
    by_cases e : a = r
    · subst e; simp
    · have e' : (r == a) = false := by simp; exact fun q => e q.symm
      rw [e']; simp [e]
theorem put_dcnt (r : Nat × Nat) (C : Cnt) : D.put (dcnt C) (encK r) (.int (((C.lookup r).getD 0 + 1 : Nat) : Int)) = dcnt (addC C r) := by
  unfold D.put addC
  rw [any_dcnt]
  by_cases h : (C.lookup r).isSome = true
  · rw [if_pos h, if_pos h]
    unfold dcnt
    rw [List.map_map, List.map_map]
    refine List.map_congr_left fun p _ => ?_
    show (if D.same (encK p.1) (encK r) = true then _ else _) = (encK (if p.1 = r then _ else p).1, D.int ((if p.1 = r then _ else p : (Nat × Nat) × Nat).2 : Nat))
    rw [same_encK]
    by_cases e : p.1 = r
    · simp [e]
    · simp [e]
  · rw [if_neg h, if_neg h]
    have : C.lookup r = none := by
      cases q : C.lookup r with
      | none => rfl
      | some n => rw [q] at h; exact absurd rfl h
    unfold dcnt
    rw [List.map_append, this]; rfl
theorem lookup_ndC {C : Cnt} {p : (Nat × Nat) × Nat} (nd : (C.map (·.1)).Nodup) (h : p ∈ C) : C.lookup p.1 = some p.2 := by
  induction C with
  | nil => cases h
  | cons q C ih =>
    obtain ⟨x, y⟩ := q
    rw [List.lookup_cons]
    rw [List.map_cons, List.nodup_cons] at nd
    rcases List.mem_cons.mp h with e | e
    · subst e; simp
    · have : p.1 ≠ x := fun q => by
        subst q
        exact nd.1 (List.mem_map.mpr ⟨_, e, rfl⟩)
      rw [show (p.1 == x) = false from by simp [this]]
      exact ih nd.2 e
theorem keyOk_encK (r : Nat × Nat) : D.keyOk true (encK r) = true := nr rfl
theorem get_dcnt (r : Nat × Nat) (C : Cnt) : (D.find (encK r) (dcnt C)).getD (.int 0) = .int ((C.lookup r).getD 0 : Nat) := by
  rw [find_dcnt]
  cases C.lookup r <;> rfl
theorem set_dcnt (r : Nat × Nat) {C : Cnt} (h : C.length ≤ 1000) : D.setAt (.dct true (dcnt C)) (encK r) (.int (((C.lookup r).getD 0 : Nat) + 1)) = some (.dct true (dcnt (addC C r))) := by
  have := put_dcnt r C
  rw [Int.natCast_add] at this
  show (if _ then _ else _) = _
  rw [if_pos (by rw [keyOk_encK]; unfold dcnt; simp [lt_lim h]), show ((((C.lookup r).getD 0 : Nat) : Int) + 1) = (((C.lookup r).getD 0 : Nat) : Int) + ((1 : Nat) : Int) from rfl, this]
theorem dcnt_fst (C : Cnt) : (dcnt C).map (·.1) = C.map fun p => encK p.1 := by
  unfold dcnt; rw [List.map_map]; rfl
theorem dcnt_len (C : Cnt) : (dcnt C).length = C.length := List.length_map _
theorem idx_dcnt {C : Cnt} (nd : (C.map (·.1)).Nodup) {p : (Nat × Nat) × Nat} (h : p ∈ C) : D.idx (.dct true (dcnt C)) (encK p.1) = some (.int (p.2 : Nat)) := by
  show (if D.keyOk true (encK p.1) = true then D.find (encK p.1) (dcnt C) else none) = _
  rw [if_pos (keyOk_encK _), find_dcnt, lookup_ndC nd h]; rfl
structure CntOk (f : Fl) (C : Cnt) : Prop where
  nd : (C.map (·.1)).Nodup
  ok : ∀ p ∈ C, p.1.1 < f.size ∧ p.1.2 < 3
theorem lookup_isSome {C : Cnt} {r : Nat × Nat} : (C.lookup r).isSome = true ↔ r ∈ C.map (·.1) := by
  induction C with
  | nil => simp
  | cons p C ih =>
    obtain ⟨a, b⟩ := p
    rw [List.lookup_cons, List.map_cons, List.mem_cons]
    by_cases e : r = a
    · subst e; simp
    · rw [show (r == a) = false from by simp [e]]
      dsimp only
      rw [ih]
      simp [e]
theorem addC_ok {f : Fl} {C : Cnt} (h : CntOk f C) {r : Nat × Nat} (hr : r.1 < f.size ∧ r.2 < 3) : CntOk f (addC C r) := by
  unfold addC
  by_cases q : (C.lookup r).isSome = true
  · rw [if_pos q]
    refine ⟨?_, fun p hp => ?_⟩
    · rw [List.map_map]
      have : C.map ((fun p : (Nat × Nat) × Nat => p.1) ∘ fun p => if p.1 = r then (p.1, (C.lookup r).getD 0 + 1) else p) = C.map (·.1) := List.map_congr_left fun p _ => by
        show (if p.1 = r then _ else p : (Nat × Nat) × Nat).1 = _
        split <;> rfl
      rw [this]; exact h.nd
    · obtain ⟨p', hp', e⟩ := List.mem_map.mp hp
      have := h.ok p' hp'
      rw [← e]
      split <;> exact this
  · rw [if_neg q]
    refine ⟨?_, fun p hp => ?_⟩
    · rw [List.map_append]
      refine List.nodup_append.mpr ⟨h.nd, by simp, fun a ha b hb e => ?_⟩
      simp at hb
      subst hb e
      exact q (lookup_isSome.mpr ha)
    · rcases List.mem_append.mp hp with hp | hp
      · exact h.ok p hp
      · rw [List.mem_singleton.mp hp]; exact hr
theorem cnt_len {f : Fl} (ok : f.Ok) {C : Cnt} (h : CntOk f C) : C.length ≤ 90 := by
  have hs := Fl.size_le ok
  have : (C.map fun p => p.1.1 * 3 + p.1.2).length ≤ 90 := by
    refine nodup_len ?_ fun x hx => ?_
    · have e : (C.map fun p => p.1.1 * 3 + p.1.2) = (C.map (·.1)).map fun r => r.1 * 3 + r.2 := by rw [List.map_map]; rfl
      rw [e]
      refine List.Pairwise.map _ (R := fun a b => a ≠ b ∧ a.2 < 3 ∧ b.2 < 3) (fun a b q => ?_) ?_
      · intro e
        apply q.1
        exact Prod.ext (by omega) (by omega)
      · have nd := h.nd
        rw [List.Nodup, List.pairwise_map] at nd
        rw [List.pairwise_map]
        exact List.Pairwise.imp_of_mem (fun {a b} ha hb q => ⟨q, (h.ok a ha).2, (h.ok b hb).2⟩) nd
    · obtain ⟨p, hp, rfl⟩ := List.mem_map.mp hx
      have := h.ok p hp
      omega
  simpa using this
def totC (C : Cnt) : Nat := (C.map (·.2)).sum
theorem tot_set {r : Nat × Nat} {v : Nat} : ∀ {C : Cnt} {n : Nat}, (C.map (·.1)).Nodup → C.lookup r = some n → totC (C.map fun p => if p.1 = r then (p.1, v) else p) + n = totC C + v
  | [], n, _, h => by cases h
  | (a, b) :: C, n, nd, h => by
    rw [List.map_cons, List.nodup_cons] at nd
    rw [List.lookup_cons] at h
    unfold totC at *
    rw [List.map_cons, List.map_cons, List.map_cons, List.sum_cons, List.sum_cons]
    by_cases e : r = a
    · subst e
      simp at h
      subst h
      have same : (C.map fun p => if p.1 = r then (p.1, v) else p) = C := by
        have : C.map (fun p => if p.1 = r then (p.1, v) else p) = C.map id := List.map_congr_left fun p hp => if_neg fun q => nd.1 (List.mem_map.mpr ⟨p, hp, q⟩)
        rw [this, List.map_id]
      rw [same]
      simp
      omega
    · rw [show (r == a) = false from by simp [e]] at h
      have ih := tot_set (v := v) nd.2 h
      unfold totC at ih
      simp only [if_neg (show ¬ a = r from fun q => e q.symm)]
      omega
theorem tot_add {f : Fl} {C : Cnt} (h : CntOk f C) (r : Nat × Nat) : totC (addC C r) = totC C + 1 := by
  unfold addC
  by_cases q : (C.lookup r).isSome = true
  · rw [if_pos q]
    obtain ⟨n, hn⟩ := Option.isSome_iff_exists.mp q
    have := tot_set (v := (C.lookup r).getD 0 + 1) h.nd hn
    rw [hn] at this ⊢
    simp at this ⊢
    omega
  · rw [if_neg q]
    unfold totC
    simp
def addCs (C : Cnt) (l : List (Nat × Nat)) : Cnt := l.foldl addC C
theorem addCs_ok {f : Fl} : ∀ {l : List (Nat × Nat)} {C : Cnt}, CntOk f C → (∀ r ∈ l, r.1 < f.size ∧ r.2 < 3) → CntOk f (addCs C l) ∧ totC (addCs C l) = totC C + l.length
  | [], C, h, _ => ⟨h, rfl⟩
  | r :: l, C, h, hl => by
    obtain ⟨a, b⟩ := addCs_ok (l := l) (addC_ok h (hl r List.mem_cons_self)) fun x hx => hl x (List.mem_cons_of_mem _ hx)
    refine ⟨a, ?_⟩
    show totC (addCs (addC C r) l) = _
    rw [b, tot_add h, List.length_cons]
    omega
/-! rows of counts -/
def encR (p : (Nat × Nat) × Nat) : D := .tup [.int (p.1.1 : Nat), .str (kindS p.1.2), .int (p.2 : Nat)]
theorem add_row (p : (Nat × Nat) × Nat) : D.add (encK p.1) (.tup [.int (p.2 : Nat)]) = some (encR p) := d_appT (by simp)
theorem encR_rows {f : Fl} {C : Cnt} (h : CntOk f C) : Rows (C.map encR) where
  al := fun a ha b hb => by
    obtain ⟨p, _, rfl⟩ := List.mem_map.mp ha
    obtain ⟨q, _, rfl⟩ := List.mem_map.mp hb
    rfl
  tu := fun a ha => by
    obtain ⟨p, _, rfl⟩ := List.mem_map.mp ha
    exact ⟨_, _, rfl⟩
  sh := fun a ha => by
    obtain ⟨p, hp, rfl⟩ := List.mem_map.mp ha
    have := kindS_ok (k := p.1.2) (Nat.lt_trans (h.ok p hp).2 (by decide))
    simp [encR, D.sh, this]
theorem sortX_rows {l : List D} (R : Rows l) (hl : l.length ≤ 1000) : bSortX [.lst l] = some (.lst (sortD l)) := by
  cases l with
  | nil => unfold sortD; rw [List.mergeSort_nil]; rfl
  | cons a r =>
    have hb : bSorted [.lst (a :: r)] = none := by
      obtain ⟨d, t, e⟩ := R.tu a List.mem_cons_self
      subst e; rfl
    unfold bSortX
    rw [hb]
    show (if _ then _ else _) = _
    rw [if_pos (by rw [R.ok]; simpa using le_lim hl)]
theorem sortD_perm (l : List D) : (sortD l).Perm l := List.mergeSort_perm l _
/-- the rows told of counts -/
def rowsC (C : Cnt) : List D := sortD (C.map encR)
theorem rowsC_mem {C : Cnt} {d : D} : d ∈ rowsC C ↔ ∃ p ∈ C, encR p = d := by
  unfold rowsC
  rw [(sortD_perm _).mem_iff, List.mem_map]
theorem rowsC_sh {f : Fl} {C : Cnt} (h : CntOk f C) : D.sh 2 (.lst (rowsC C)) = true := by
  show (rowsC C).all (D.sh 1) = true
  rw [List.all_eq_true]
  intro d hd
  obtain ⟨p, hp, rfl⟩ := rowsC_mem.mp hd
  have := kindS_ok (k := p.1.2) (Nat.lt_trans (h.ok p hp).2 (by decide))
  simp [encR, D.sh, this]
/-! ### steps -/
def Fl.nextN (f : Fl) : Nat → Sta → Sta
  | 0, s => s
  | n + 1, s => f.nextN n (f.next s)
/-- the state behind n steps, what came counted on -/
def Fl.runC (f : Fl) (z : Sta × Cnt) : Sta × Cnt := (f.next z.1, addCs z.2 (f.came z.1))
def Fl.runN (f : Fl) : Nat → Sta × Cnt → Sta × Cnt
  | 0, z => z
  | n + 1, z => f.runN n (f.runC z)
/-- how many came in n steps -/
def Fl.tot (f : Fl) : Nat → Sta → Nat
  | 0, _ => 0
  | n + 1, s => (f.came s).length + f.tot n (f.next s)
structure RunOk (f : Fl) (z : Sta × Cnt) : Prop where
  s : f.SOk z.1
  c : CntOk f z.2
section
variable {f : Fl}
theorem runC_ok (ok : f.Ok) {z : Sta × Cnt} (h : RunOk f z) : RunOk f (f.runC z) := ⟨next_ok ok h.s, (addCs_ok h.c fun r hr => ⟨(came_ok ok h.s hr).1, (came_ok ok h.s hr).2.1⟩).1⟩
theorem runN_ok (ok : f.Ok) : ∀ (n : Nat) {z : Sta × Cnt}, RunOk f z → RunOk f (f.runN n z) ∧ (f.runN n z).1 = f.nextN n z.1 ∧ totC (f.runN n z).2 = totC z.2 + f.tot n z.1
  | 0, z, h => ⟨h, rfl, rfl⟩
  | n + 1, z, h => by
    obtain ⟨a, b, c⟩ := runN_ok ok n (runC_ok ok h)
    refine ⟨a, b, ?_⟩
    show totC (f.runN n (f.runC z)).2 = totC z.2 + ((f.came z.1).length + f.tot n (f.next z.1))
    rw [c, show (f.runC z).2 = addCs z.2 (f.came z.1) from rfl, (addCs_ok h.c fun r hr => ⟨(came_ok ok h.s hr).1, (came_ok ok h.s hr).2.1⟩).2]
    show _ + f.tot n (f.next z.1) = _
    omega
theorem nextN_add : ∀ (m n : Nat) (s : Sta), f.nextN (m + n) s = f.nextN n (f.nextN m s)
  | 0, n, s => by rw [Nat.zero_add]; rfl
  | m + 1, n, s => by rw [Nat.succ_add]; exact nextN_add m n (f.next s)
theorem tot_split : ∀ (m n : Nat) (s : Sta), f.tot (m + n) s = f.tot m s + f.tot n (f.nextN m s)
  | 0, n, s => by rw [Nat.zero_add]; show _ = 0 + _; rw [Nat.zero_add]; rfl
  | m + 1, n, s => by
    rw [Nat.succ_add]
    show (f.came s).length + f.tot (m + n) (f.next s) = (f.came s).length + f.tot m (f.next s) + f.tot n (f.nextN m (f.next s))
    rw [tot_split m n]
    omega
theorem nextN_ok (ok : f.Ok) : ∀ (n : Nat) {s : Sta}, f.SOk s → f.SOk (f.nextN n s)
  | 0, _, h => h
  | n + 1, _, h => nextN_ok ok n (next_ok ok h)
theorem runN_fold : ∀ (n : Nat) (z : Sta × Cnt), (List.range n).foldl (fun z _ => f.runC z) z = f.runN n z := by
  have key : ∀ (l : List Nat) (z : Sta × Cnt), l.foldl (fun z _ => f.runC z) z = f.runN l.length z := by
    intro l
    induction l with
    | nil => intro z; rfl
    | cons x l ih => intro z; exact ih _
  intro n z
  rw [key, List.length_range]
theorem run_zero {s : Sta} (S : f.SOk s) : RunOk f (s, []) := ⟨S, ⟨List.nodup_nil, fun p hp => by cases hp⟩⟩
end
/-- what after tells -/
def Fl.afterD (f : Fl) (s : Sta) (n : Nat) : D := .tup [(f.nextN n s).enc, .lst (rowsC (f.runN n (s, [])).2)]
end L2.Pv

set_option Elab.async false
set_option linter.all false
set_option maxRecDepth 100000
set_option maxHeartbeats 4000000
set_option autoImplicit false
/-! How many things there are. -/
namespace L2.Pv
open PySem PySem.Spec PyProof.Rows

theorem count6 {α : Type} (p1 p2 p3 q1 q2 q3 : α → Bool) : ∀ l : List α, (∀ x ∈ l, (p1 x).toNat + (p2 x).toNat + (p3 x).toNat = (q1 x).toNat + (q2 x).toNat + (q3 x).toNat) → l.countP p1 + l.countP p2 + l.countP p3 = l.countP q1 + l.countP q2 + l.countP q3
  | [], _ => rfl
  | x :: l, h => by
    have ih := count6 p1 p2 p3 q1 q2 q3 l fun y hy => h y (List.mem_cons_of_mem _ hy)
    have hx := h x List.mem_cons_self
    simp only [List.countP_cons]
    cases h1 : p1 x <;> cases h2 : p2 x <;> cases h3 : p3 x <;> cases h4 : q1 x <;> cases h5 : q2 x <;> cases h6 : q3 x <;> simp [h1, h2, h3, h4, h5, h6] at hx ⊢ <;> omega
theorem countP_le {α : Type} {p q : α → Bool} : ∀ {l : List α}, (∀ x ∈ l, p x = true → q x = true) → l.countP p ≤ l.countP q
  | [], _ => Nat.le_refl _
  | x :: l, h => by
    have ih := countP_le (l := l) fun y hy => h y (List.mem_cons_of_mem _ hy)
    have hx := h x List.mem_cons_self
    simp only [List.countP_cons]
    cases h1 : p x <;> cases h2 : q x <;> simp [h1, h2] at hx ⊢ <;> omega
/-- how many things are on a floor -/
def Fl.nOn (f : Fl) (s : Sta) : Nat := (List.range f.size).countP fun c => !decide (s.onAt c = none)
def Fl.nFresh (f : Fl) (s : Sta) : Nat := (List.range f.size).countP (f.fresh s)
def Cell.isWell : Cell → Bool
  | .well _ _ _ => true
  | _ => false
def Fl.wells (f : Fl) : Nat := f.cells.countP Cell.isWell
section
variable {f : Fl} {s : Sta} {c g : Nat}
theorem mv_into (f : Fl) (s : Sta) : f.mv s = (List.range f.size).filterMap fun c => (f.into s c).map fun o => (o, c) := by
  unfold Fl.mv Fl.lets
  rw [List.filter_filterMap]
  congr 1
  funext c
  unfold Fl.into
  cases f.winner s c with
  | none => simp
  | some o => by_cases q : f.go s o = true <;> simp [q, Option.filter]
theorem came_count (f : Fl) (s : Sta) : (f.came s).length = (List.range f.size).countP fun c => decide (f.at c = .fin) && (f.into s c).isSome := by
  unfold Fl.came Fl.cameO
  rw [List.length_map, List.length_filterMap_eq_countP]
  congr 1
  funext c
  by_cases h : f.at c = .fin <;> simp [h]
theorem into_out_count (ok : f.Ok) : (List.range f.size).countP (fun c => (f.into s c).isSome) = (List.range f.size).countP fun c => (f.out s c).isSome := by
  have h := (mv_perm (s := s) ok).length_eq
  rw [mv_into, List.length_filterMap_eq_countP] at h
  unfold Fl.moves at h
  rw [List.length_filterMap_eq_countP] at h
  simpa using h
/-- nothing is lost, nothing comes but out of wells -/
theorem kept (ok : f.Ok) (S : f.SOk s) : f.nOn (f.next s) + (f.came s).length = f.nOn s + f.nFresh s := by
  have io := into_out_count (s := s) ok
  have key := count6 (fun c => !decide ((f.next s).onAt c = none)) (fun c => decide (f.at c = .fin) && (f.into s c).isSome) (fun c => (f.out s c).isSome) (fun c => !decide (s.onAt c = none)) (f.fresh s) (fun c => (f.into s c).isSome) (List.range f.size) fun c hc => by
    have hc := List.mem_range.mp hc
    rw [next_on hc]
    unfold Fl.on2
    have fr : f.fresh s c = true → f.on1 s c = none ∧ f.at c ≠ .fin := fun h => by
      unfold Fl.fresh at h
      split at h
      · rename_i e
        exact ⟨(of_decide_eq_true h).2, by rw [e]; simp⟩
      · cases h
    cases hi : f.into s c with
    | some o =>
      have hout := into_out.mp hi
      by_cases q : f.at c = .fin
      · have h1 := on_fin S hc q
        have h2 : f.out s c = none := by
          cases z : f.out s c with
          | none => rfl
          | some g => have := (out_goal z).1; rw [fin_goals q] at this; cases this
        have h3 : f.fresh s c = false := by
          cases z : f.fresh s c with
          | false => rfl
          | true => exact absurd q (fr z).2
        have h4 : f.on1 s c = none := by unfold Fl.on1; rw [hi]; exact if_pos q
        simp [q, h1, h2, h3, h4]
      · have ho := (out_goal hout).2
        have h4 : f.on1 s c = s.onAt o := by unfold Fl.on1; rw [hi]; exact if_neg q
        have h3 : f.fresh s c = false := by
          cases z : f.fresh s c with
          | false => rfl
          | true => exact absurd (h4 ▸ (fr z).1) ho
        have h5 : (f.out s c).isSome = !decide (s.onAt c = none) := by
          rcases out_room ok hout with r | ⟨g', r⟩
          · have : f.out s c = none := by
              cases z : f.out s c with
              | none => rfl
              | some g => exact absurd r (out_goal z).2
            rw [this, r]; rfl
          · have := (out_goal r).2
            rw [r]; simp [this]
        simp only [h3, h4, h5, if_neg Bool.false_ne_true]
        simp [q, ho]
        omega
    | none =>
      have h4 : f.on1 s c = if f.out s c = none then s.onAt c else none := by unfold Fl.on1; rw [hi]
      cases ho : f.out s c with
      | none =>
        rw [if_pos ho] at h4
        cases z : f.fresh s c with
        | true =>
          have := (fr z).1
          rw [h4] at this
          simp [this]
        | false => simp [h4]
      | some g =>
        rw [if_neg (by rw [ho]; simp)] at h4
        have := (out_goal ho).2
        cases z : f.fresh s c <;> simp [h4, this]
  unfold Fl.nOn Fl.nFresh
  rw [came_count]
  omega
theorem cells_range (f : Fl) : f.cells = (List.range f.size).map f.at := by
  have := map_getD f.cells .wall id
  rw [List.map_id] at this
  exact this
theorem fresh_le (f : Fl) (s : Sta) : f.nFresh s ≤ f.wells := by
  unfold Fl.nFresh Fl.wells
  rw [cells_range f, List.countP_map]
  have : ((List.range f.size).map f.at).length = f.size := by simp
  refine countP_le fun c _ h => ?_
  unfold Fl.fresh at h
  show (f.at c).isWell = true
  split at h
  · rename_i e; rw [e]; rfl
  · cases h
theorem on_count (S : f.SOk s) : (s.on.filter fun o => !decide (o = none)).length = f.nOn s := by
  have e : s.on = (List.range f.size).map s.onAt := by
    have := map_getD s.on none id
    rw [List.map_id, S.l1] at this
    exact this
  unfold Fl.nOn
  conv => lhs; rw [e]
  rw [← List.countP_eq_length_filter, List.countP_map]
  rfl
end
theorem fold_fst {α β γ : Type} (g : α → α) (h : α × β → β) : ∀ (l : List γ) (z : α × β), (l.foldl (fun z _ => (g z.1, h z)) z).1 = l.foldl (fun a _ => g a) z.1
  | [], z => rfl
  | x :: l, z => fold_fst g h l (g z.1, h z)
theorem sum_perm {l m : List Nat} (p : l.Perm m) : l.sum = m.sum := p.sum_nat
theorem ints_cast : ∀ l : List Nat, D.ints (l.map fun n : Nat => D.int n) = some (l.map fun n : Nat => (n : Int))
  | [] => rfl
  | n :: l => by
    show (D.ints (l.map _)).map _ = _
    rw [ints_cast l]; rfl
theorem sum_cast : ∀ l : List Nat, (l.map fun n : Nat => (n : Int)).sum = (l.sum : Nat)
  | [] => rfl
  | n :: l => by
    rw [List.map_cons, List.sum_cons, List.sum_cons, sum_cast l]; simp
theorem bsum_nat (l : List Nat) : bSum [.lst (l.map fun n : Nat => D.int n)] = some (.int (l.sum : Nat)) := by
  show (D.ints (l.map fun n : Nat => D.int n)).map _ = _
  rw [ints_cast, Option.map_some, sum_cast]
/-- the counts in the rows that are told -/
def cntOf : D → Nat
  | .tup [_, _, .int n] => n.toNat
  | _ => 0
theorem cnt_encR (p : (Nat × Nat) × Nat) : cntOf (encR p) = p.2 := rfl
theorem sum_rows (C : Cnt) : ((rowsC C).map cntOf).sum = totC C := by
  have p := (sortD_perm (C.map encR)).map cntOf
  rw [show rowsC C = sortD (C.map encR) from rfl, sum_perm p]
  unfold totC
  rw [List.map_map]
  rfl
theorem rows_map (C : Cnt) : ∃ l : Cnt, rowsC C = l.map encR ∧ l.Perm C := by
  have p := sortD_perm (C.map encR)
  obtain ⟨l, hl, e⟩ : ∃ l : Cnt, l.Perm C ∧ sortD (C.map encR) = l.map encR := by
    have : ∀ {xs : List D} {C : Cnt}, xs.Perm (C.map encR) → ∃ l : Cnt, l.Perm C ∧ xs = l.map encR := by
      intro xs C h
      generalize hy : C.map encR = ys at h
      induction h generalizing C with
      | nil => 
        have : C = [] := by simpa using hy
        exact ⟨[], by rw [this], rfl⟩
      | @cons x l1 l2 h ih =>
        cases C with
        | nil => cases hy
        | cons c C =>
          rw [List.map_cons] at hy
          injection hy with h1 h2
          obtain ⟨l, p, e⟩ := ih h2
          exact ⟨c :: l, p.cons c, by rw [List.map_cons, h1, e]⟩
      | swap x y l =>
        match C, hy with
        | c :: d :: C, hy =>
          injection hy with h1 h2
          injection h2 with h2 h3
          exact ⟨d :: c :: C, List.Perm.swap _ _ _, by rw [← h1, ← h2, ← h3]; rfl⟩
      | trans h1 h2 ih1 ih2 =>
        obtain ⟨l, p, e⟩ := ih2 hy
        obtain ⟨l', p', e'⟩ := ih1 e.symm
        exact ⟨l', p'.trans p, e'⟩
    exact this p
  exact ⟨l, e, hl⟩
end L2.Pv

set_option Elab.async false
set_option linter.all false
set_option maxRecDepth 100000
set_option maxHeartbeats 4000000
set_option autoImplicit false
/-! States that come; dicts whose keys are states. -/
namespace L2.Pv
open PySem PySem.Spec PyProof.Rows

/-! ### while that may end early -/
def iterR {σ : Type} (cond : σ → Bool) (step : σ → Sum σ Out) : Nat → σ → Sum σ Out
  | 0, s => .inl s
  | n + 1, s => if cond s then (match step s with
    | .inl s' => iterR cond step n s'
    | .inr o => .inr o) else .inl s
/-- an out that ends a loop -/
def Out.ends : Out → Prop
  | .rt _ => True
  | .rs _ _ => True
  | _ => False
theorem while_runR {σ : Type} {junk : List Nat} {p : TM} {body : SM} (E : σ → Env) (cond : σ → Bool) (step : σ → Sum σ Out) (meas : σ → Nat) (I : σ → Prop)
    (hp : ∀ s, I s → p (E s) = .ok (cond s)) (hb : ∀ s, I s → cond s = true → match step s with
      | .inl s' => (body (E s)).loop junk = some (.inl (E s')) ∧ I s' ∧ meas s' < meas s
      | .inr o => body (E s) = o ∧ o.ends) :
    ∀ (n : Nat) (s : σ), I s → meas s < n → match iterR cond step n s with
      | .inl s' => whileD junk p body n (E s) = .nx (E s') ∧ I s' ∧ cond s' = false
      | .inr o => whileD junk p body n (E s) = o ∧ o.ends
  | 0, s, _, h => absurd h (Nat.not_lt_zero _)
  | n + 1, s, hs, h => by
    unfold whileD iterR
    rw [hp s hs]
    cases hc : cond s with
    | false => exact ⟨rfl, hs, hc⟩
    | true =>
      have b := hb s hs hc
      simp only [if_true, R.ok_out]
      cases q : step s with
      | inl s' =>
        rw [q] at b
        obtain ⟨b1, b2, b3⟩ := b
        obtain ⟨ρ2, e2, e3⟩ := Out.loop_inl b1
        have ih := while_runR E cond step meas I hp hb n s' b2 (by omega)
        dsimp only
        rcases e2 with e2 | e2 <;> rw [e2] <;> dsimp only <;> rw [e3] <;> exact ih
      | inr o =>
        rw [q] at b
        obtain ⟨b1, b2⟩ := b
        rw [b1]
        cases o with
        | rt d => exact ⟨rfl, trivial⟩
        | rs c ρ => exact ⟨rfl, trivial⟩
        | _ => exact False.elim b2

theorem wrunR_of {σ : Type} {junk : List Nat} {p : TM} {body : SM} {n : Nat} {ρ : Env} {X : Out} (hX : whileD junk p body n ρ = X) (E : σ → Env) (cond : σ → Bool) (step : σ → Sum σ Out) (meas : σ → Nat) (I : σ → Prop) (s : σ) (hρ : ρ = E s) (hI : I s) (hm : meas s < n)
    (hp : ∀ s, I s → p (E s) = .ok (cond s)) (hb : ∀ s, I s → cond s = true → match step s with
      | .inl s' => (body (E s)).loop junk = some (.inl (E s')) ∧ I s' ∧ meas s' < meas s
      | .inr o => body (E s) = o ∧ o.ends) :
    (∃ s', X = .nx (E s') ∧ I s' ∧ cond s' = false) ∨ ∃ s', I s' ∧ cond s' = true ∧ ∃ o, step s' = .inr o ∧ X = o := by
  subst hX hρ
  induction n generalizing s with
  | zero => omega
  | succ n ih =>
    have unf : whileD junk p body (n + 1) (E s) = (p (E s)).out (E s) fun b => if b then match body (E s) with
      | .nx ρ2 => whileD junk p body n (fgs junk ρ2)
      | .ct ρ2 => whileD junk p body n (fgs junk ρ2)
      | .bk ρ2 => .nx (fgs junk ρ2)
      | o => o
    else .nx (E s) := by
      conv => lhs; unfold whileD
      all_goals rfl
    rw [unf, hp s hI]
    cases hc : cond s with
    | false => exact .inl ⟨s, rfl, hI, hc⟩
    | true =>
      have b := hb s hI hc
      simp only [if_true, R.ok_out]
      cases q : step s with
      | inl s' =>
        rw [q] at b
        obtain ⟨b1, b2, b3⟩ := b
        obtain ⟨ρ2, e2, e3⟩ := Out.loop_inl b1
        have := ih s' b2 (by omega)
        rcases e2 with e2 | e2 <;> rw [e2] <;> dsimp only <;> rw [e3] <;> exact this
      | inr o =>
        rw [q] at b
        obtain ⟨b1, b2⟩ := b
        refine .inr ⟨s, hI, hc, o, q, ?_⟩
        rw [b1]
        cases o with
        | rt d => rfl
        | rs c ρ => rfl
        | _ => exact False.elim b2
/-! ### states as keys -/
def nkS (s : Sta) : NestedKey := .tup [.tup (s.on.map fun o => .text (kindO o)), .tup (s.turns.map fun n : Nat => NestedKey.num (n : Int)), .tup (s.waits.map fun n : Nat => NestedKey.num (n : Int))]
theorem nks_cons {d : D} {k : NestedKey} {ds : List D} {ks : List NestedKey} (h1 : D.nk d = some k) (h2 : D.nks ds = some ks) : D.nks (d :: ds) = some (k :: ks) := by
  show (match D.nk d, D.nks ds with
      | some k, some ks => some (k :: ks)
      | _, _ => none) = _
  rw [h1, h2]
theorem nks_map {α : Type} (e : α → D) (k : α → NestedKey) (h : ∀ a, D.nk (e a) = some (k a)) : ∀ l : List α, D.nks (l.map e) = some (l.map k)
  | [] => rfl
  | a :: l => nks_cons (h a) (nks_map e k h l)
theorem nk_tup {ds : List D} {ks : List NestedKey} (h : D.nks ds = some ks) : D.nk (.tup ds) = some (.tup ks) := by
  show (D.nks ds).map NestedKey.tup = _
  rw [h]; rfl
theorem nk_sta (s : Sta) : D.nk s.enc = some (nkS s) := by
  have h1 : D.nk (.tup (onD s.on)) = some (.tup (s.on.map fun o => .text (kindO o))) := nk_tup (nks_map (fun o => D.str (kindO o)) _ (fun _ => rfl) s.on)
  have h2 : ∀ l : List Nat, D.nk (.tup (nats l)) = some (.tup (l.map fun n : Nat => NestedKey.num (n : Int))) := fun l => nk_tup (nks_map (fun n : Nat => D.int n) _ (fun _ => rfl) l)
  exact nk_tup (nks_cons h1 (nks_cons (h2 _) (nks_cons (h2 _) rfl)))
theorem map_inj {α β : Type} {g : α → β} (h : ∀ a b, g a = g b → a = b) : ∀ {l m : List α}, l.map g = m.map g → l = m
  | [], [], _ => rfl
  | [], _ :: _, e => by cases e
  | _ :: _, [], e => by cases e
  | a :: l, b :: m, e => by
    injection e with e1 e2
    rw [h a b e1, map_inj h e2]
theorem nkS_inj {s t : Sta} (h : nkS s = nkS t) : s = t := by
  unfold nkS at h
  injection h with h
  injection h with h1 h
  injection h with h2 h
  injection h with h3 _
  injection h1 with h1
  injection h2 with h2
  injection h3 with h3
  have e1 := map_inj (fun a b e => by injection e with e; exact kindO_inj e) h1
  have e2 := map_inj (fun (a b : Nat) e => by injection e with e; omega) h2
  have e3 := map_inj (fun (a b : Nat) e => by injection e with e; omega) h3
  cases s; cases t
  simp at e1 e2 e3
  rw [e1, e2, e3]
theorem enc_inj {s t : Sta} (h : s.enc = t.enc) : s = t := nkS_inj (by
  have := nk_sta s
  rw [h, nk_sta t] at this
  injection this with this
  exact this.symm)
theorem depth_flat {α : Type} (k : α → NestedKey) (h : ∀ a, (k a).depth = 0) : ∀ l : List α, NestedKey.depthAll (l.map k) = 0
  | [] => rfl
  | a :: l => by
    show max (k a).depth (NestedKey.depthAll (l.map k)) = 0
    rw [h, depth_flat k h l]; rfl
theorem nkS_depth (s : Sta) : (nkS s).depth = 2 := by
  have h1 := depth_flat (fun o => NestedKey.text (kindO o)) (fun _ => rfl) s.on
  have h2 := depth_flat (fun n : Nat => NestedKey.num (n : Int)) (fun _ => rfl) s.turns
  have h3 := depth_flat (fun n : Nat => NestedKey.num (n : Int)) (fun _ => rfl) s.waits
  unfold nkS
  simp only [NestedKey.depth, NestedKey.depthAll, h1, h2, h3]
  rfl
theorem nkOk_sta (s : Sta) : D.nkOk s.enc = true := by
  have e : s.enc = .tup [.tup (onD s.on), .tup (nats s.turns), .tup (nats s.waits)] := rfl
  unfold D.nkOk
  rw [e]
  dsimp only
  rw [← e, nk_sta]
  exact decide_eq_true (by rw [nkS_depth]; decide)
/-! ### the first state that comes again -/
def Rep (st : Nat → Sta) (n : Nat) : Prop := ∃ i, i < n ∧ st i = st n
instance (st : Nat → Sta) (n : Nat) : Decidable (Rep st n) := decidable_of_iff (∃ i ∈ List.range n, st i = st n) ⟨fun ⟨i, h, e⟩ => ⟨i, List.mem_range.mp h, e⟩, fun ⟨i, h, e⟩ => ⟨i, List.mem_range.mpr h, e⟩⟩
/-- i and n: the state n is the state i, and none comes again ahead -/
structure First (st : Nat → Sta) (i n : Nat) : Prop where
  lt : i < n
  eq : st i = st n
  no : ∀ m, m < n → ¬ Rep st m
theorem least {P : Nat → Prop} (h : ∃ n, P n) : ∃ n, P n ∧ ∀ m, m < n → ¬ P m := by
  obtain ⟨n, hn⟩ := h
  induction n using Nat.strongRecOn with
  | ind n ih =>
    by_cases q : ∃ m, m < n ∧ P m
    · obtain ⟨m, hm, pm⟩ := q
      exact ih m hm pm
    · exact ⟨n, hn, fun m hm pm => q ⟨m, hm, pm⟩⟩
theorem First.of {st : Nat → Sta} {n : Nat} (h : Rep st n) : ∃ i m, m ≤ n ∧ First st i m := by
  obtain ⟨m, ⟨⟨i, h1, h2⟩, h3⟩⟩ := least ⟨n, h⟩
  refine ⟨i, m, ?_, h1, h2, h3⟩
  rcases Nat.lt_or_ge n m with q | q
  · exact absurd h (h3 n q)
  · exact q
theorem First.inj {st : Nat → Sta} {i n : Nat} (F : First st i n) {a b : Nat} (ha : a < n) (hb : b < n) (e : st a = st b) : a = b := by
  rcases Nat.lt_trichotomy a b with h | h | h
  · exact absurd ⟨a, h, e⟩ (F.no b hb)
  · exact h
  · exact absurd ⟨b, h, e.symm⟩ (F.no a ha)
theorem First.one {st : Nat → Sta} {i n : Nat} (F : First st i n) {j : Nat} (hj : j < n) (e : st j = st n) : j = i := F.inj hj F.lt (e.trans F.eq.symm)
/-- a dict of the first n of some states -/
def dorb (st : Nat → Sta) (g : Nat → D) (n : Nat) : List (D × D) := (List.range n).map fun i => ((st i).enc, g i)
theorem find_orb (st : Nat → Sta) (g : Nat → D) (t : Sta) : ∀ l : List Nat, (∀ i ∈ l, st i ≠ t) → D.findN t.enc (l.map fun i => ((st i).enc, g i)) = none
  | [], _ => rfl
  | i :: l, h => by
    show (if D.nk (st i).enc = D.nk t.enc then _ else _) = _
    rw [if_neg, find_orb st g t l fun j hj => h j (List.mem_cons_of_mem _ hj)]
    rw [nk_sta, nk_sta]
    intro e
    injection e with e
    exact h i List.mem_cons_self (nkS_inj e)
theorem find_orb_some (st : Nat → Sta) (g : Nat → D) (t : Sta) {i : Nat} : ∀ l : List Nat, i ∈ l → st i = t → (∀ j ∈ l, st j = t → j = i) → D.findN t.enc (l.map fun i => ((st i).enc, g i)) = some (g i)
  | [], h, _, _ => by cases h
  | j :: l, h, e, u => by
    show (if D.nk (st j).enc = D.nk t.enc then some (g j) else _) = _
    by_cases q : j = i
    · subst q
      rw [if_pos (by rw [e])]
    · rw [if_neg, find_orb_some st g t l (by rcases List.mem_cons.mp h with z | z; exact absurd z.symm q; exact z) e fun j hj => u j (List.mem_cons_of_mem _ hj)]
      rw [nk_sta, nk_sta]
      intro z
      injection z with z
      exact q (u j List.mem_cons_self (nkS_inj z))
theorem dorb_none {st : Nat → Sta} {g : Nat → D} {t : Sta} {n : Nat} (h : ∀ i, i < n → st i ≠ t) : D.findN t.enc (dorb st g n) = none := find_orb st g t _ fun i hi => h i (List.mem_range.mp hi)
theorem dorb_some {st : Nat → Sta} {g : Nat → D} {t : Sta} {n i : Nat} (hi : i < n) (e : st i = t) (u : ∀ j, j < n → st j = t → j = i) : D.findN t.enc (dorb st g n) = some (g i) := find_orb_some st g t _ (List.mem_range.mpr hi) e fun j hj => u j (List.mem_range.mp hj)
theorem dorb_in {st : Nat → Sta} {g : Nat → D} {n : Nat} (no : ∀ m, m < n → ¬ Rep st m) : (D.findN (st n).enc (dorb st g n)).isSome = decide (Rep st n) := by
  by_cases h : Rep st n
  · obtain ⟨i, h1, h2⟩ := h
    have F : First st i n := ⟨h1, h2, no⟩
    rw [dorb_some h1 h2 fun j hj e => F.one hj e, decide_eq_true ⟨i, h1, h2⟩]; rfl
  · rw [dorb_none fun i hi e => h ⟨i, hi, e⟩, decide_eq_false h]; rfl
theorem isIn_orb {st : Nat → Sta} {g : Nat → D} {n : Nat} (no : ∀ m, m < n → ¬ Rep st m) : D.isIn (st n).enc (.dcn (dorb st g n)) = some (.bl (decide (Rep st n))) := by
  show (if _ then _ else _) = _
  rw [if_pos (nkOk_sta _), dorb_in no]
theorem notIn_orb {st : Nat → Sta} {g : Nat → D} {n : Nat} (no : ∀ m, m < n → ¬ Rep st m) : D.notIn (st n).enc (.dcn (dorb st g n)) = some (.bl (!decide (Rep st n))) := by
  unfold D.notIn; rw [isIn_orb no]
theorem idx_orb {st : Nat → Sta} {g : Nat → D} {i n : Nat} (F : First st i n) : D.idx (.dcn (dorb st g n)) (st n).enc = some (g i) := by
  have : D.idx (.dcn (dorb st g n)) (st n).enc = if D.nkOk (st n).enc = true then D.findN (st n).enc (dorb st g n) else none := rfl
  rw [this, if_pos (nkOk_sta _), dorb_some F.lt F.eq fun j hj e => F.one hj e]
theorem dorb_put {st : Nat → Sta} {g : Nat → D} {n : Nat} (h : ∀ i, i < n → st i ≠ st n) : D.putN (dorb st g n) (st n).enc (g n) = dorb st g (n + 1) := by
  unfold D.putN
  rw [dorb_none h, if_neg (by simp)]
  unfold dorb
  rw [List.range_succ, List.map_append]
  rfl
theorem dorb_set {st : Nat → Sta} {g : Nat → D} {n : Nat} (h : ∀ i, i < n → st i ≠ st n) (hn : n ≤ 1000) : D.setAt (.dcn (dorb st g n)) (st n).enc (g n) = some (.dcn (dorb st g (n + 1))) := by
  show (if _ then _ else _) = _
  rw [if_pos (by rw [nkOk_sta]; simp [dorb, lt_lim hn]), dorb_put h]
/-- the states of a floor, from one on -/
def Fl.orb (f : Fl) (s : Sta) (n : Nat) : Sta := f.nextN n s
theorem orb_succ (f : Fl) (s : Sta) (n : Nat) : f.orb s (n + 1) = f.next (f.orb s n) := by
  unfold Fl.orb
  rw [nextN_add n 1]; rfl
theorem orb_ok {f : Fl} (ok : f.Ok) {s : Sta} (S : f.SOk s) (n : Nat) : f.SOk (f.orb s n) := nextN_ok ok n S
theorem orb_zero (f : Fl) (s : Sta) : f.orb s 0 = s := rfl
def encs (st : Nat → Sta) (n : Nat) : List D := (List.range n).map fun i => (st i).enc
theorem encs_succ (st : Nat → Sta) (n : Nat) : encs st (n + 1) = encs st n ++ [(st n).enc] := by
  unfold encs
  rw [List.range_succ, List.map_append]; rfl
@[simp] theorem encs_len (st : Nat → Sta) (n : Nat) : (encs st n).length = n := nr (by unfold encs; simp)
theorem idx_encs {st : Nat → Sta} {n i : Nat} (h : i < n) : D.idx (.lst (encs st n)) (.int (i : Int)) = some (st i).enc := idx_rngL _ h
theorem idx_encs_last {st : Nat → Sta} {n : Nat} (h : 0 < n) : D.idx (.lst (encs st n)) (.int (-1)) = some (st (n - 1)).enc := by
  show atI (encs st n) (-1) = _
  unfold atI ixN
  rw [if_neg (by decide), if_pos (by rw [encs_len]; omega), encs_len]
  show (encs st n)[((-1 : Int) + (n : Int)).toNat]? = _
  rw [show ((-1 : Int) + (n : Int)).toNat = n - 1 from by omega]
  unfold encs
  rw [List.getElem?_map, List.getElem?_range (by omega)]; rfl
theorem sta_cl (s : Sta) : s.enc.cl = true := by
  have h1 : ∀ l : List (Option Nat), D.cls (onD l) = true := by
    intro l
    induction l with
    | nil => rfl
    | cons o l ih => show (D.cl (.str (kindO o)) && D.cls (onD l)) = true; rw [ih]; rfl
  show (D.cls (onD s.on) && (D.cls (nats s.turns) && (D.cls (nats s.waits) && true))) = true
  rw [h1, nats_cls, nats_cls]; rfl
theorem eqb_sta (s t : Sta) : D.eqb s.enc t.enc = decide (s = t) := by
  rw [Bool.eq_iff_iff, decide_eq_true_eq]
  show PyData.eqv s.enc.py t.enc.py = true ↔ _
  rw [eqb_cl _ _ (sta_cl s) (sta_cl t)]
  exact ⟨enc_inj, fun e => by rw [e]⟩
theorem idxOf_encs {st : Nat → Sta} (t : Sta) {i : Nat} : ∀ (n k : Nat) (a : Nat), k ≤ i → i < k + n → st i = t → (∀ j, k ≤ j → j < i → st j ≠ t) → Pv.idxOf t.enc ((List.range' k n).map fun i => (st i).enc) a = some (a + (i - k))
  | 0, k, a, h1, h2, _, _ => by omega
  | n + 1, k, a, h1, h2, e, u => by
    rw [List.range'_succ, List.map_cons]
    show (if (st k).enc.eqb t.enc = true then some a else Pv.idxOf t.enc ((List.range' (k + 1) n).map fun i => (st i).enc) (a + 1)) = _
    rw [eqb_sta]
    by_cases q : k = i
    · subst q
      rw [if_pos (decide_eq_true e)]; simp
    · rw [if_neg (by simpa using u k (Nat.le_refl _) (by omega)), idxOf_encs t n (k + 1) (a + 1) (by omega) (by omega) e fun j h1 h2 => u j (by omega) h2]
      congr 1; omega
theorem index_encs {st : Nat → Sta} {i n : Nat} (F : First st i n) (sh : ∀ j, D.sh 2 (st j).enc = true) : mIndexL (.lst (encs st n)) [(st n).enc] = some (.int (i : Nat)) := by
  have hs : D.sh 3 (.lst (encs st n)) = true := by
    show (encs st n).all (D.sh 2) = true
    unfold encs
    rw [List.all_map, List.all_eq_true]
    exact fun x _ => sh x
  show (if _ then _ else _) = _
  rw [sh_shaped hs, sh_shaped (sh n)]
  have := idxOf_encs (st := st) (st n) (i := i) n 0 0 (Nat.zero_le _) (by have := F.lt; omega) F.eq fun j _ hj e => by
    have := F.one (by have := F.lt; omega) e
    omega
  rw [← List.range_eq_range'] at this
  have : Pv.idxOf (st n).enc (encs st n) 0 = some (0 + (i - 0)) := this
  rw [this]
  simp
end L2.Pv

set_option Elab.async false
set_option linter.all false
set_option maxRecDepth 100000
set_option maxHeartbeats 4000000
set_option autoImplicit false
/-! Dicts used as sets of numbers; what moves in some states. -/
namespace L2.Pv
open PySem PySem.Spec PyProof.Rows

def keysD (l : List Nat) : List (D × D) := l.map fun x : Nat => (D.int x, D.bl true)
theorem put_keys (l : List Nat) (x : Nat) : D.put (keysD l) (.int x) (.bl true) = keysD (addK l x) := by
  have hs : ∀ y : Nat, D.same (.int y) (.int x) = decide (y = x) := fun y => same_nat y x
  have ha : (keysD l).any (fun p => p.1.same (.int x)) = decide (x ∈ l) := by
    unfold keysD
    rw [List.any_map]
    rw [Bool.eq_iff_iff, List.any_eq_true, decide_eq_true_eq]
    constructor
    · rintro ⟨y, hy, e⟩
      have e : D.same (.int y) (.int x) = true := e
      rw [hs] at e
      have := of_decide_eq_true e
      subst this; exact hy
    · intro h
      exact ⟨x, h, (hs x).trans (decide_eq_true rfl)⟩
  unfold D.put addK
  rw [ha]
  by_cases h : x ∈ l
  · rw [if_pos (decide_eq_true h), if_pos h]
    unfold keysD
    rw [List.map_map]
    refine List.map_congr_left fun y _ => ?_
    show (if (D.int (y : Int)).same (.int x) = true then _ else _) = _
    split <;> rfl
  · rw [if_neg (by simpa using h), if_neg h]
    unfold keysD
    rw [List.map_append]; rfl
theorem keys_fst (l : List Nat) : (keysD l).map (·.1) = nats l := by
  unfold keysD nats
  rw [List.map_map]; rfl
theorem set_keys (l : List Nat) (x : Nat) (h : l.length ≤ 1000) : D.setAt (.dct false (keysD l)) (.int (x : Int)) (.bl true) = some (.dct false (keysD (addK l x))) := by
  show (if _ then _ else _) = _
  rw [if_pos (by simp [keysD, lt_lim h]), put_keys]
theorem find_keys (c : Nat) : ∀ l : List Nat, (D.find (.int (c : Int)) (keysD l)).isSome = decide (c ∈ l)
  | [] => rfl
  | x :: l => by
    show (if D.same (.int (x : Int)) (.int (c : Int)) = true then some (D.bl true) else D.find (.int (c : Int)) (keysD l)).isSome = _
    rw [same_nat]
    by_cases e : x = c
    · subst e; simp
    · rw [if_neg (by simpa using e), find_keys c l]
      have : ¬ c = x := fun q => e q.symm
      simp [this]
theorem isIn_keys (c : Nat) (l : List Nat) : D.isIn (.int (c : Int)) (.dct false (keysD l)) = some (.bl (decide (c ∈ l))) := by
  show (if D.keyOk false (.int (c : Int)) = true then some (D.bl (D.find (.int (c : Int)) (keysD l)).isSome) else none) = _
  rw [if_pos (keyOk_int _), find_keys]
theorem notIn_keys (c : Nat) (l : List Nat) : D.notIn (.int (c : Int)) (.dct false (keysD l)) = some (.bl (!decide (c ∈ l))) := by
  unfold D.notIn; rw [isIn_keys]
structure KeyOk (n : Nat) (l : List Nat) : Prop where
  nd : l.Nodup
  lt : ∀ x ∈ l, x < n
theorem addK_ok {n : Nat} {l : List Nat} {x : Nat} (h : KeyOk n l) (hx : x < n) : KeyOk n (addK l x) :=
  ⟨addK_nd h.nd, fun y hy => (addK_mem.mp hy).elim (h.lt y) fun e => by rw [e]; exact hx⟩
theorem KeyOk.len {n : Nat} {l : List Nat} (h : KeyOk n l) : l.length ≤ n := nodup_len h.nd h.lt
theorem KeyOk.nil (n : Nat) : KeyOk n [] := ⟨List.nodup_nil, fun x h => by cases h⟩
/-- whether a thing in the cell moves in one of the first n states -/
def movedIn (f : Fl) (s : Sta) (n c : Nat) : Bool := (List.range n).any fun i => (f.out (f.orb s i) c).isSome
theorem movedIn_iff {f : Fl} {s : Sta} {n c : Nat} : movedIn f s n c = true ↔ ∃ i, i < n ∧ f.out (f.orb s i) c ≠ none := by
  unfold movedIn
  rw [List.any_eq_true]
  constructor
  · rintro ⟨i, hi, h⟩
    exact ⟨i, List.mem_range.mp hi, by intro e; rw [e] at h; cases h⟩
  · rintro ⟨i, hi, h⟩
    exact ⟨i, List.mem_range.mpr hi, by cases q : f.out (f.orb s i) c with | none => exact absurd q h | some _ => rfl⟩
/-- the stuck things' cells, the states known to come round within n -/
def Fl.stuckL (f : Fl) (s : Sta) (n : Nat) : List Nat := (List.range f.size).filter fun c => !decide (s.onAt c = none) && !movedIn f s n c
theorem stuck_of {f : Fl} {s : Sta} {n : Nat} {l : List Nat} (h : ∀ c, c ∈ l ↔ ∃ i, i < n ∧ f.out (f.orb s i) c ≠ none) : ((List.range f.size).filter fun c => !decide (s.onAt c = none) && !decide (c ∈ l)) = f.stuckL s n := by
  refine List.filter_congr fun c _ => ?_
  congr 2
  rw [Bool.eq_iff_iff, decide_eq_true_eq, h, movedIn_iff]
/-- wells on which nothing is -/
def Fl.lackL (f : Fl) (s : Sta) : List Nat := (List.range f.size).filter fun c => (f.at c).isWell && decide (s.onAt c = none)
/-- at rest -/
def Fl.rest (f : Fl) (s : Sta) : Bool := decide (f.moves s = []) && decide (f.lackL s = [])
theorem mv_nil {f : Fl} {s : Sta} (ok : f.Ok) : f.mv s = [] ↔ f.moves s = [] := by
  have p := mv_perm (s := s) ok
  constructor
  · intro e; rw [e] at p; exact List.nil_perm.mp p
  · intro e; rw [e] at p; exact List.perm_nil.mp p
theorem encP_inj {p q : Nat × Nat} (h : encP p = encP q) : p = q := by
  unfold encP at h
  injection h with h
  injection h with h1 h
  injection h with h2 _
  injection h1 with h1
  injection h2 with h2
  exact Prod.ext (by omega) (by omega)
theorem encP_cl (M : List (Nat × Nat)) : D.cl (.lst (M.map encP)) = true := by
  show D.cls (M.map encP) = true
  induction M with
  | nil => rfl
  | cons p M ih => show (D.cl (encP p) && D.cls (M.map encP)) = true; rw [ih]; rfl
theorem encPs_sh (M : List (Nat × Nat)) : D.sh 2 (.lst (M.map encP)) = true := by
  simp [D.sh, encP]
theorem eq_moves (M N : List (Nat × Nat)) : D.eq (.lst (M.map encP)) (.lst (N.map encP)) = some (.bl (decide (M = N))) :=
  d_eq_cl (encP_cl M) (encP_cl N) (encPs_sh M) (encPs_sh N) (h := ⟨fun e => by injection e with e; exact map_inj (fun _ _ => encP_inj) e, fun e => by rw [e]⟩)
theorem eq_moves0 (M : List (Nat × Nat)) : D.eq (.lst (M.map encP)) (.lst []) = some (.bl (decide (M = []))) := eq_moves M []
@[simp] theorem eq_free_none : D.eq (.str (kindO none)) (.str (Str.ofString ".")) = some (.bl true) := eq_free (o := none) (by simp)
@[simp] theorem ne_free_none : D.ne (.str (kindO none)) (.str (Str.ofString ".")) = some (.bl false) := ne_free (o := none) (by simp)
@[simp] theorem word_well (c : Cell) : c.word = Str.ofString "well" ↔ c.isWell = true := by cases c <;> simp [Cell.word, Cell.isWell]
end L2.Pv

set_option Elab.async false
set_option linter.all false
set_option maxRecDepth 100000
set_option maxHeartbeats 4000000
set_option autoImplicit false
/-! What comes for ever. -/
namespace L2.Pv
open PySem PySem.Spec PyProof.Rows

theorem perm_map {α : Type} (g : α → D) {xs : List D} {C : List α} (h : xs.Perm (C.map g)) : ∃ l : List α, l.Perm C ∧ xs = l.map g := by
  generalize hy : C.map g = ys at h
  induction h generalizing C with
  | nil =>
    have : C = [] := by simpa using hy
    exact ⟨[], by rw [this], rfl⟩
  | @cons x l1 l2 h ih =>
    cases C with
    | nil => cases hy
    | cons c C =>
      rw [List.map_cons] at hy
      injection hy with h1 h2
      obtain ⟨l, p, e⟩ := ih h2
      exact ⟨c :: l, p.cons c, by rw [List.map_cons, h1, e]⟩
  | swap x y l =>
    match C, hy with
    | c :: d :: C, hy =>
      injection hy with h1 h2
      injection h2 with h2 h3
      exact ⟨d :: c :: C, List.Perm.swap _ _ _, by rw [← h1, ← h2, ← h3]; rfl⟩
  | trans h1 h2 ih1 ih2 =>
    obtain ⟨l, p, e⟩ := ih2 hy
    obtain ⟨l', p', e'⟩ := ih1 e.symm
    exact ⟨l', p'.trans p, e'⟩
/-- rows whose keys are sorted -/
def keysC (C : Cnt) : List D := sortD (C.map fun p => encK p.1)
theorem keysC_map (C : Cnt) : ∃ l : Cnt, l.Perm C ∧ keysC C = l.map fun p => encK p.1 := perm_map _ (sortD_perm _)
theorem encKs_rows {f : Fl} {C : Cnt} (h : CntOk f C) : Rows (C.map fun p => encK p.1) where
  al := fun a ha b hb => by
    obtain ⟨p, _, rfl⟩ := List.mem_map.mp ha
    obtain ⟨q, _, rfl⟩ := List.mem_map.mp hb
    rfl
  tu := fun a ha => by
    obtain ⟨p, _, rfl⟩ := List.mem_map.mp ha
    exact ⟨_, _, rfl⟩
  sh := fun a ha => by
    obtain ⟨p, hp, rfl⟩ := List.mem_map.mp ha
    have := kindS_ok (k := p.1.2) (Nat.lt_trans (h.ok p hp).2 (by decide))
    simp [encK, D.sh, this]
theorem sortKT_eq {f : Fl} {C : Cnt} (h : CntOk f C) (hl : C.length ≤ 1000) : bSortKT [.dct true (dcnt C)] = some (.lst (keysC C)) := by
  show (if _ then _ else _) = _
  rw [dcnt_fst, if_pos]
  · rfl
  · rw [(encKs_rows h).ok, dcnt_len]
    simp [le_lim hl]
    intro a b c _
    rfl
theorem keysC_sh {f : Fl} {C : Cnt} (h : CntOk f C) : D.sh 2 (.lst (keysC C)) = true := by
  obtain ⟨l, p, e⟩ := keysC_map C
  rw [e]
  show (l.map fun p => encK p.1).all (D.sh 1) = true
  rw [List.all_map, List.all_eq_true]
  intro q hq
  have := kindS_ok (k := q.1.2) (Nat.lt_trans (h.ok q (p.mem_iff.mp hq)).2 (by decide))
  simp [encK, D.sh, this]
/-- a share: so many in so many steps, as small as can be -/
def encS (L : Nat) (p : (Nat × Nat) × Nat) : D := .tup [.int (p.1.1 : Nat), .str (kindS p.1.2), .tup [.int (p.2 / Nat.gcd p.2 L : Nat), .int (L / Nat.gcd p.2 L : Nat)]]
theorem share_eq (a L : Nat) : a / Nat.gcd a L * L = a * (L / Nat.gcd a L) := by
  have h1 := Nat.gcd_dvd_left a L
  have h2 := Nat.gcd_dvd_right a L
  rw [Nat.mul_comm, ← Nat.mul_div_assoc _ h1, ← Nat.mul_div_assoc _ h2, Nat.mul_comm]
theorem share_gcd {a L : Nat} (h : 0 < L) : Nat.gcd (a / Nat.gcd a L) (L / Nat.gcd a L) = 1 := by
  rw [Nat.gcd_div (Nat.gcd_dvd_left a L) (Nat.gcd_dvd_right a L)]
  exact Nat.div_self (Nat.gcd_pos_of_pos_right a h)
theorem share_pos {a L : Nat} (h : 0 < L) : 1 ≤ L / Nat.gcd a L := Nat.div_pos (Nat.le_of_dvd h (Nat.gcd_dvd_right a L)) (Nat.gcd_pos_of_pos_right a h)
theorem share_floor {a L : Nat} (h : 0 < L) : a / Nat.gcd a L * 1000 / (L / Nat.gcd a L) = a * 1000 / L := by
  have hg := Nat.gcd_pos_of_pos_right a h
  have h1 := Nat.div_mul_cancel (Nat.gcd_dvd_left a L)
  have h2 := Nat.div_mul_cancel (Nat.gcd_dvd_right a L)
  rw [← Nat.mul_div_mul_right (a / Nat.gcd a L * 1000) (L / Nat.gcd a L) hg, h2]
  congr 1
  rw [Nat.mul_right_comm, h1]
theorem floors_le {L : Nat} : ∀ l : List Nat, L * (l.map fun a => a * 1000 / L).sum ≤ l.sum * 1000
  | [] => by simp
  | a :: l => by
    have ih := floors_le (L := L) l
    rw [List.map_cons, List.sum_cons, List.sum_cons, Nat.mul_add, Nat.add_mul]
    have := Nat.mul_div_le (a * 1000) L
    omega
section
variable {f : Fl} {s : Sta}
/-- things kept, over n steps -/
def Fl.freshN (f : Fl) : Nat → Sta → Nat
  | 0, _ => 0
  | n + 1, s => f.nFresh s + f.freshN n (f.next s)
theorem keptN (ok : f.Ok) : ∀ (n : Nat) {s : Sta}, f.SOk s → f.nOn (f.nextN n s) + f.tot n s = f.nOn s + f.freshN n s
  | 0, s, _ => rfl
  | n + 1, s, S => by
    have h1 := kept ok S
    have h2 := keptN ok n (next_ok ok S)
    show f.nOn (f.nextN n (f.next s)) + ((f.came s).length + f.tot n (f.next s)) = f.nOn s + (f.nFresh s + f.freshN n (f.next s))
    omega
theorem freshN_le (f : Fl) : ∀ (n : Nat) (s : Sta), f.freshN n s ≤ f.wells * n
  | 0, _ => Nat.zero_le _
  | n + 1, s => by
    have h1 := fresh_le f s
    have h2 := freshN_le f n (f.next s)
    show f.nFresh s + f.freshN n (f.next s) ≤ _
    rw [Nat.mul_succ]
    omega
theorem orb_add (f : Fl) (s : Sta) (i k : Nat) : f.orb s (i + k) = f.nextN k (f.orb s i) := nextN_add i k s
/-- what comes in a round came out of wells -/
theorem round_tot (ok : f.Ok) (S : f.SOk s) {i n : Nat} (F : First (f.orb s) i n) : f.tot (n - i) (f.orb s i) ≤ f.wells * (n - i) := by
  have h1 := keptN ok (n - i) (orb_ok ok S i)
  rw [← orb_add, show i + (n - i) = n from by have := F.lt; omega, ← F.eq] at h1
  have := freshN_le f (n - i) (f.orb s i)
  omega
/-! at rest -/
theorem out_of_moves (h : f.moves s = []) {c : Nat} (hc : c < f.size) : f.out s c = none := by
  cases q : f.out s c with
  | none => rfl
  | some g =>
    have : (c, g) ∈ f.moves s := by
      unfold Fl.moves
      exact List.mem_filterMap.mpr ⟨c, List.mem_range.mpr hc, by rw [q]; rfl⟩
    rw [h] at this; cases this
theorem into_of_moves (ok : f.Ok) (h : f.moves s = []) (c : Nat) : f.into s c = none := by
  cases q : f.into s c with
  | none => rfl
  | some o =>
    have := into_out.mp q
    rw [out_of_moves h (out_lt ok this).1] at this
    cases this
theorem rest_iff : f.rest s = true ↔ f.moves s = [] ∧ ∀ c, c < f.size → (f.at c).isWell = true → s.onAt c ≠ none := by
  unfold Fl.rest Fl.lackL
  rw [Bool.and_eq_true, decide_eq_true_eq, decide_eq_true_eq, List.filter_eq_nil_iff]
  refine and_congr Iff.rfl ⟨fun h c hc w e => h c (List.mem_range.mpr hc) (by simp [w, e]), fun h c hc q => ?_⟩
  rw [Bool.and_eq_true, decide_eq_true_eq] at q
  exact h c (List.mem_range.mp hc) q.1 q.2
theorem rest_on (ok : f.Ok) (h : f.rest s = true) {c : Nat} (hc : c < f.size) : f.on2 s c = s.onAt c ∧ f.turn1 s c = s.turnAt c ∧ f.wait1 s c = s.waitAt c - 1 := by
  obtain ⟨h1, h2⟩ := rest_iff.mp h
  have e1 := out_of_moves h1 hc
  have e2 := into_of_moves ok h1 c
  have e3 : f.on1 s c = s.onAt c := by unfold Fl.on1; rw [e2]; exact if_pos e1
  have e4 : f.fresh s c = false := by
    unfold Fl.fresh
    split
    · rename_i q
      refine decide_eq_false fun z => h2 c hc (by rw [q]; rfl) ?_
      rw [← e3]; exact z.2
    · rfl
  refine ⟨by unfold Fl.on2; rw [e4]; exact e3, ?_, by unfold Fl.wait1; rw [e4]; rfl⟩
  unfold Fl.turn1 Fl.base1 Fl.way1 Fl.base
  rw [e1, e2]
  dsimp only
  split <;> omega
theorem sta_ext {s t : Sta} {n : Nat} (l1 : s.on.length = n) (l2 : s.turns.length = n) (l3 : s.waits.length = n) (m1 : t.on.length = n) (m2 : t.turns.length = n) (m3 : t.waits.length = n) (h : ∀ c, c < n → s.onAt c = t.onAt c ∧ s.turnAt c = t.turnAt c ∧ s.waitAt c = t.waitAt c) : s = t := by
  have ext : ∀ {α : Type} (d : α) (a b : List α), a.length = n → b.length = n → (∀ c, c < n → a.getD c d = b.getD c d) → a = b := by
    intro α d a b ha hb hh
    refine List.ext_getElem (ha.trans hb.symm) fun i h1 h2 => ?_
    have := hh i (by omega)
    rw [List.getD_eq_getElem?_getD, List.getD_eq_getElem?_getD, List.getElem?_eq_getElem h1, List.getElem?_eq_getElem h2] at this
    exact this
  cases s; cases t
  rw [Sta.mk.injEq]
  exact ⟨ext none _ _ l1 m1 fun c hc => (h c hc).1, ext 0 _ _ l2 m2 fun c hc => (h c hc).2.1, ext 0 _ _ l3 m3 fun c hc => (h c hc).2.2⟩
theorem SOk.ext {t : Sta} (S : f.SOk s) (T : f.SOk t) (h : ∀ c, c < f.size → s.onAt c = t.onAt c ∧ s.turnAt c = t.turnAt c ∧ s.waitAt c = t.waitAt c) : s = t := sta_ext S.l1 S.l2 S.l3 T.l1 T.l2 T.l3 h
/-- moves hang on things and turns alone -/
theorem moves_same {t : Sta} (h1 : s.on = t.on) (h2 : s.turns = t.turns) : f.moves s = f.moves t ∧ f.lackL s = f.lackL t := by
  have e1 : ∀ c, s.onAt c = t.onAt c := fun c => by unfold Sta.onAt; rw [h1]
  have e2 : ∀ c, s.turnAt c = t.turnAt c := fun c => by unfold Sta.turnAt; rw [h2]
  have w : ∀ c, f.wish s c = f.wish t c := fun c => by
    have p : ∀ g h, pick2 s (s.turnAt c) g h = pick2 t (t.turnAt c) g h := fun g h => by unfold pick2; rw [e1, e1, e2]
    unfold Fl.wish
    rw [e1]
    split <;> simp [p]
  have b : ∀ c, f.base s c = f.base t c := fun c => by unfold Fl.base; rw [e2]
  have wi : ∀ c, f.winner s c = f.winner t c := fun c => by
    unfold Fl.winner
    rw [b]
    congr 1
    funext o
    rw [w]
  have l : ∀ c, f.letTo s c = f.letTo t c := fun c => by
    unfold Fl.letTo
    rw [w]
    split
    · rfl
    · rw [wi]
  have m : ∀ (k : Nat) (seen : List Nat) (c : Nat), f.mayS s k seen c = f.mayS t k seen c := by
    intro k
    induction k with
    | zero => intro seen c; rfl
    | succ k ih =>
      intro seen c
      unfold Fl.mayS
      rw [l]
      split
      · rfl
      · rw [e1, ih]
  have o : ∀ c, f.out s c = f.out t c := fun c => by
    unfold Fl.out Fl.go
    rw [l]
    split
    · rfl
    · rw [m]
  refine ⟨?_, ?_⟩
  · unfold Fl.moves
    congr 1
    funext c
    rw [o]
  · unfold Fl.lackL
    congr 1
    funext c
    rw [e1]
theorem rest_next (ok : f.Ok) (S : f.SOk s) (h : f.rest s = true) : f.rest (f.next s) = true ∧ (f.next s).on = s.on ∧ (f.next s).turns = s.turns ∧ ∀ c, c < f.size → (f.next s).waitAt c = s.waitAt c - 1 := by
  have N := next_ok ok S
  have ext : ∀ {α : Type} (d : α) (a b : List α), a.length = f.size → b.length = f.size → (∀ c, c < f.size → a.getD c d = b.getD c d) → a = b := by
    intro α d a b ha hb hh
    refine List.ext_getElem (ha.trans hb.symm) fun i h1 h2 => ?_
    have := hh i (by omega)
    rw [List.getD_eq_getElem?_getD, List.getD_eq_getElem?_getD, List.getElem?_eq_getElem h1, List.getElem?_eq_getElem h2] at this
    exact this
  have h1 : (f.next s).on = s.on := ext none _ _ N.l1 S.l1 fun c hc => (next_on hc).trans (rest_on ok h hc).1
  have h2 : (f.next s).turns = s.turns := ext 0 _ _ N.l2 S.l2 fun c hc => (next_turn hc).trans (rest_on ok h hc).2.1
  have := moves_same (f := f) h1 h2
  refine ⟨?_, h1, h2, fun c hc => (next_wait hc).trans (rest_on ok h hc).2.2⟩
  unfold Fl.rest at h ⊢
  rw [this.1, this.2]; exact h
theorem rest_nextN (ok : f.Ok) : ∀ (k : Nat) {s : Sta}, f.SOk s → f.rest s = true → ∀ c, c < f.size → (f.nextN k s).waitAt c = s.waitAt c - k
  | 0, s, _, _, c, _ => rfl
  | k + 1, s, S, h, c, hc => by
    obtain ⟨r, _, _, w⟩ := rest_next ok S h
    show (f.nextN k (f.next s)).waitAt c = _
    rw [rest_nextN ok k (next_ok ok S) r c hc, w c hc]
    omega
/-- at rest in a round, it is for ever the same -/
theorem rest_round (ok : f.Ok) (S : f.SOk s) (h : f.rest s = true) {k : Nat} (hk : 0 < k) (e : f.nextN k s = s) : f.next s = s := by
  obtain ⟨_, h1, h2, w⟩ := rest_next ok S h
  refine SOk.ext (next_ok ok S) S fun c hc => ⟨by unfold Sta.onAt; rw [h1], by unfold Sta.turnAt; rw [h2], ?_⟩
  have := rest_nextN ok k S h c hc
  rw [e] at this
  rw [w c hc]
  omega
theorem came_nil (ok : f.Ok) (h : f.moves s = []) : f.came s = [] := by
  have := came_count f s
  have z : (List.range f.size).countP (fun c => decide (f.at c = .fin) && (f.into s c).isSome) = 0 := by
    rw [List.countP_eq_zero]
    intro c _
    rw [into_of_moves ok h c]
    simp
  rw [z] at this
  exact List.length_eq_zero_iff.mp this
end
end L2.Pv

set_option Elab.async false
set_option linter.all false
set_option maxRecDepth 100000
set_option maxHeartbeats 4000000
set_option autoImplicit false
/-! Pairs of states as keys; kinds that come. -/
namespace L2.Pv
open PySem PySem.Spec PyProof.Rows

abbrev Sta2 := Sta × Sta
def encP2 (p : Sta2) : D := .tup [p.1.enc, p.2.enc]
def nkP2 (p : Sta2) : NestedKey := .tup [nkS p.1, nkS p.2]
theorem nk_p2 (p : Sta2) : D.nk (encP2 p) = some (nkP2 p) := nk_tup (nks_cons (nk_sta _) (nks_cons (nk_sta _) rfl))
theorem nkP2_inj {p q : Sta2} (h : nkP2 p = nkP2 q) : p = q := by
  unfold nkP2 at h
  injection h with h
  injection h with h1 h
  injection h with h2 _
  exact Prod.ext (nkS_inj h1) (nkS_inj h2)
theorem nkOk_p2 (p : Sta2) : D.nkOk (encP2 p) = true := by
  have e : encP2 p = .tup [p.1.enc, p.2.enc] := rfl
  unfold D.nkOk
  rw [e]
  dsimp only
  rw [← e, nk_p2]
  refine decide_eq_true ?_
  show (NestedKey.tup [nkS p.1, nkS p.2]).depth ≤ 8
  simp only [NestedKey.depth, NestedKey.depthAll, nkS_depth]
  decide
def Rep2 (st : Nat → Sta2) (n : Nat) : Prop := ∃ i, i < n ∧ st i = st n
instance (st : Nat → Sta2) (n : Nat) : Decidable (Rep2 st n) := decidable_of_iff (∃ i ∈ List.range n, st i = st n) ⟨fun ⟨i, h, e⟩ => ⟨i, List.mem_range.mp h, e⟩, fun ⟨i, h, e⟩ => ⟨i, List.mem_range.mpr h, e⟩⟩
def dorb2 (st : Nat → Sta2) (n : Nat) : List (D × D) := (List.range n).map fun i => (encP2 (st i), .bl true)
@[simp] theorem dorb2_len (st : Nat → Sta2) (n : Nat) : (dorb2 st n).length = n := nr (by unfold dorb2; simp)
theorem find_orb2 (st : Nat → Sta2) (t : Sta2) : ∀ l : List Nat, (D.findN (encP2 t) (l.map fun i => (encP2 (st i), .bl true))).isSome = decide (∃ i ∈ l, st i = t)
  | [] => by simp [D.findN]
  | i :: l => by
    show (if D.nk (encP2 (st i)) = D.nk (encP2 t) then _ else _ : Option D).isSome = _
    by_cases q : st i = t
    · rw [if_pos (by rw [q])]
      simp [q]
    · rw [if_neg]
      · have := find_orb2 st t l
        rw [this]
        simp [q]
      · rw [nk_p2, nk_p2]
        intro e
        injection e with e
        exact q (nkP2_inj e)
theorem orb2_in (st : Nat → Sta2) (n : Nat) : (D.findN (encP2 (st n)) (dorb2 st n)).isSome = decide (Rep2 st n) := by
  unfold dorb2
  rw [find_orb2]
  exact decide_eq_decide.mpr ⟨fun ⟨i, h, e⟩ => ⟨i, List.mem_range.mp h, e⟩, fun ⟨i, h, e⟩ => ⟨i, List.mem_range.mpr h, e⟩⟩
theorem notIn_orb2 (st : Nat → Sta2) (n : Nat) : D.notIn (encP2 (st n)) (.dcn (dorb2 st n)) = some (.bl (!decide (Rep2 st n))) := by
  have : D.isIn (encP2 (st n)) (.dcn (dorb2 st n)) = some (.bl (decide (Rep2 st n))) := by
    show (if _ then _ else _) = _
    rw [if_pos (nkOk_p2 _), orb2_in]
  unfold D.notIn
  rw [this]
theorem dorb2_set {st : Nat → Sta2} {n : Nat} (h : ¬ Rep2 st n) (hn : n ≤ 1000) : D.setAt (.dcn (dorb2 st n)) (encP2 (st n)) (.bl true) = some (.dcn (dorb2 st (n + 1))) := by
  have e : D.putN (dorb2 st n) (encP2 (st n)) (.bl true) = dorb2 st (n + 1) := by
    unfold D.putN
    have := orb2_in st n
    rw [decide_eq_false h] at this
    rw [this, if_neg (by simp)]
    unfold dorb2
    rw [List.range_succ, List.map_append]
    rfl
  show (if _ then _ else _) = _
  rw [if_pos (by rw [nkOk_p2]; simp [dorb2, lt_lim hn]), e]
theorem len_orb2 (st : Nat → Sta2) {n : Nat} (h : n ≤ 1000) : D.len (.dcn (dorb2 st n)) = some (.int (n : Nat)) := by
  show (if (dorb2 st n).length ≤ lim then some (D.int ((dorb2 st n).length : Nat)) else none) = _
  rw [dorb2_len, if_pos (le_lim h)]
/-! kinds -/
def Fl.kinO (f : Fl) (s : Sta) : List (Option Nat) := (f.came s).map fun r => some r.2
theorem onD_cls (l : List (Option Nat)) : D.cls (onD l) = true := by
  induction l with
  | nil => rfl
  | cons o l ih => show (D.cl (.str (kindO o)) && D.cls (onD l)) = true; rw [ih]; rfl
theorem onD_inj {l m : List (Option Nat)} (h : onD l = onD m) : l = m := map_inj (fun a b e => by injection e with e; exact kindO_inj e) h
theorem kin_sh {f : Fl} {s : Sta} (ok : f.Ok) (S : f.SOk s) : D.sh 1 (.lst (onD (f.kinO s))) = true := by
  show (onD (f.kinO s)).all (D.sh 0) = true
  unfold onD Fl.kinO
  rw [List.map_map, List.all_map, List.all_eq_true]
  intro r hr
  exact kindS_ok (k := r.2) (Nat.lt_trans (came_ok ok S hr).2.1 (by decide))
theorem ne_kin {f g : Fl} {s t : Sta} (ok : f.Ok) (og : g.Ok) (S : f.SOk s) (T : g.SOk t) : D.ne (.lst (onD (f.kinO s))) (.lst (onD (g.kinO t))) = some (.bl (!decide (f.kinO s = g.kinO t))) :=
  d_ne_cl (show D.cl (.lst (onD (f.kinO s))) = true from onD_cls _) (show D.cl (.lst (onD (g.kinO t))) = true from onD_cls _) (kin_sh ok S) (kin_sh og T) (h := ⟨fun e => by injection e with e; exact onD_inj e, fun e => by rw [e]⟩)
/-- two floors, step by step -/
def pst (f g : Fl) (n : Nat) : Sta2 := (f.orb f.zero n, g.orb g.zero n)
def Dif (f g : Fl) (n : Nat) : Prop := ¬ f.kinO (f.orb f.zero n) = g.kinO (g.orb g.zero n)
instance (f g : Fl) (n : Nat) : Decidable (Dif f g n) := inferInstanceAs (Decidable (¬ _))
def Alk (f g : Fl) (n : Nat) : Prop := ∀ m, m < n → ¬ Rep2 (pst f g) m ∧ ¬ Dif f g m
theorem rep2_swap {f g : Fl} {n : Nat} : Rep2 (pst g f) n ↔ Rep2 (pst f g) n := by
  have : ∀ {f g : Fl}, Rep2 (pst g f) n → Rep2 (pst f g) n := fun ⟨i, h, e⟩ => ⟨i, h, by
    unfold pst at e ⊢
    injection e with e1 e2
    rw [e1, e2]⟩
  exact ⟨this, this⟩
theorem dif_swap {f g : Fl} {n : Nat} : Dif g f n ↔ Dif f g n := ⟨fun h e => h e.symm, fun h e => h e.symm⟩
theorem alk_swap {f g : Fl} {n : Nat} (h : Alk f g n) : Alk g f n := fun m hm => ⟨fun r => (h m hm).1 (rep2_swap.mp r), fun d => (h m hm).2 (dif_swap.mp d)⟩
theorem alk_succ {f g : Fl} {n : Nat} (h : Alk f g n) (h1 : ¬ Rep2 (pst f g) n) (h2 : ¬ Dif f g n) : Alk f g (n + 1) := fun m hm => by
  rcases Nat.lt_or_ge m n with z | z
  · exact h m z
  · rw [show m = n from by omega]; exact ⟨h1, h2⟩
/-! a cell put -/
def Fl.put (f : Fl) (c : Nat) (x : Cell) : Fl := ⟨f.wide, f.high, f.cells.set c x⟩
theorem put_ok {f : Fl} (ok : f.Ok) {c : Nat} {x : Cell} (h : x.Ok) : (f.put c x).Ok := ⟨ok.w1, ok.w6, ok.h1, ok.h5, by
  show (f.cells.set c x).length = _
  rw [List.length_set]; exact ok.len, fun d hd => by
    rcases List.mem_or_eq_of_mem_set hd with hd | rfl
    · exact ok.ok d hd
    · exact h⟩
theorem put_enc {f : Fl} {c : Nat} {x : Cell} (h : c < f.size) : ((f.cells.map Cell.enc).take c ++ [x.enc]) ++ (f.cells.map Cell.enc).drop (c + 1) = (f.put c x).cells.map Cell.enc := by
  show _ = (f.cells.set c x).map Cell.enc
  have h' : c < f.cells.length := h
  rw [List.set_eq_take_append_cons_drop, if_pos h', List.map_append, List.map_cons, List.map_take, List.map_drop, List.append_assoc]
  rfl
end L2.Pv

set_option Elab.async false
set_option linter.all false
set_option maxRecDepth 100000
set_option maxHeartbeats 4000000
set_option autoImplicit false
/-! Things followed. -/
namespace L2.Pv
open PySem PySem.Spec PyProof.Rows

/-! ### where a thing is -/
section
variable {f : Fl} {s : Sta} {c : Nat}
def Fl.goT (f : Fl) (s : Sta) (c : Nat) : Nat := (f.out s c).getD c
def Fl.pos (f : Fl) (s : Sta) (c : Nat) : Nat → Nat
  | 0 => c
  | n + 1 => f.goT (f.orb s n) (f.pos s c n)
theorem goT_lt (ok : f.Ok) (h : c < f.size) : f.goT s c < f.size := by
  unfold Fl.goT
  cases q : f.out s c with
  | none => exact h
  | some g => exact (out_lt ok q).2
theorem pos_lt (ok : f.Ok) (h : c < f.size) : ∀ n, f.pos s c n < f.size
  | 0 => h
  | n + 1 => goT_lt ok (pos_lt ok h n)
def PL (p : Nat → Nat) (n : Nat) : List Nat := (List.range (n + 1)).map p
theorem PL_succ (p : Nat → Nat) (n : Nat) : PL p (n + 1) = PL p n ++ [p (n + 1)] := by
  unfold PL
  rw [List.range_succ, List.map_append]; rfl
@[simp] theorem PL_len (p : Nat → Nat) (n : Nat) : (PL p n).length = n + 1 := nr (by unfold PL; simp)
theorem PL_last (p : Nat → Nat) (n : Nat) : D.idx (.lst (nats (PL p n))) (.int (-1)) = some (.int (p n : Nat)) := by
  show atI (nats (PL p n)) (-1) = _
  unfold atI ixN
  rw [if_neg (by decide), if_pos (by rw [nats_len, PL_len]; omega), nats_len, PL_len]
  show (nats (PL p n))[((-1 : Int) + ((n + 1 : Nat) : Int)).toNat]? = _
  rw [show ((-1 : Int) + ((n + 1 : Nat) : Int)).toNat = n from by omega]
  unfold nats PL
  rw [List.map_map, List.getElem?_map, List.getElem?_range (by omega)]; rfl
/-- the path ends behind n of so many steps -/
structure Stop (f : Fl) (s : Sta) (c many n : Nat) : Prop where
  le : n ≤ many
  no : ∀ j, j < n → f.at (f.pos s c j) ≠ .fin
  st : n = many ∨ f.at (f.pos s c n) = .fin
theorem Stop.uniq {many n m : Nat} (a : Stop f s c many n) (b : Stop f s c many m) : n = m := by
  rcases Nat.lt_trichotomy n m with h | h | h
  · rcases a.st with q | q
    · have := b.le; omega
    · exact absurd q (b.no n h)
  · exact h
  · rcases b.st with q | q
    · have := a.le; omega
    · exact absurd q (a.no m h)
theorem lookup_moves (ok : f.Ok) (o : Nat) : (f.moves s).lookup o = f.out s o := by
  cases q : f.out s o with
  | some g => exact lookup_nd moves_nd ((mem_moves ok).mpr q)
  | none =>
    cases z : (f.moves s).lookup o with
    | none => rfl
    | some g =>
      have := (mem_moves ok).mp (lookup_mem z)
      rw [q] at this; cases this
theorem find_go {M : List (Nat × Nat)} (h : M.lookup c = f.out s c) : (D.find (.int (c : Int)) (dmap M)).getD (.int (c : Int)) = .int (f.goT s c : Nat) := by
  rw [find_dmap, h]
  unfold Fl.goT
  cases f.out s c <;> rfl
theorem prs_encP : ∀ M : List (Nat × Nat), prsD (M.map encP) = some (dmap M)
  | [] => rfl
  | p :: M => by
    show (if (D.key (.int (p.1 : Nat))).isSome then (prsD (M.map encP)).map _ else none) = _
    have hk : (D.key (.int (p.1 : Nat))).isSome = true := rfl
    rw [if_pos hk, prs_encP M]
    rfl
theorem mrg_dmap : ∀ (B A : List (Nat × Nat)), ((A ++ B).map (·.1)).Nodup → mrgD (dmap A) (dmap B) = dmap (A ++ B)
  | [], A, _ => by rw [List.append_nil]; rfl
  | p :: B, A, nd => by
    have hl : A.lookup p.1 = none := by
      cases q : A.lookup p.1 with
      | none => rfl
      | some b =>
        have hm := lookup_mem q
        rw [List.map_append, List.nodup_append] at nd
        exact absurd rfl (nd.2.2 p.1 (List.mem_map.mpr ⟨_, hm, rfl⟩) p.1 (List.mem_map.mpr ⟨p, List.mem_cons_self, rfl⟩))
    have hp := put_dmap p.1 p.2 A hl
    show mrgD (D.put (dmap A) (.int (p.1 : Nat)) (.int (p.2 : Nat))) (dmap B) = _
    rw [hp]
    have := mrg_dmap B (A ++ [p]) (by rw [List.append_assoc]; exact nd)
    rw [List.append_assoc] at this
    exact this
theorem dict_moves (f : Fl) (s : Sta) : bDictP [.lst ((f.moves s).map encP)] = some (.dct false (dmap (f.moves s))) := by
  show (prsD ((f.moves s).map encP)).map _ = _
  rw [prs_encP]
  show some (D.dct false (mrgD (dmap []) (dmap (f.moves s)))) = _
  have := mrg_dmap (f.moves s) [] (moves_nd (f := f) (s := s))
  rw [this]; rfl
end
/-! ### states and cells as keys -/
abbrev StaN := Sta × Nat
def encSN (p : StaN) : D := .tup [p.1.enc, .int (p.2 : Nat)]
def nkSN (p : StaN) : NestedKey := .tup [nkS p.1, .num (p.2 : Nat)]
theorem nk_sn (p : StaN) : D.nk (encSN p) = some (nkSN p) := nk_tup (nks_cons (nk_sta _) (nks_cons rfl rfl))
theorem nkSN_inj {p q : StaN} (h : nkSN p = nkSN q) : p = q := by
  unfold nkSN at h
  injection h with h
  injection h with h1 h
  injection h with h2 _
  injection h2 with h2
  exact Prod.ext (nkS_inj h1) (by omega)
theorem nkOk_sn (p : StaN) : D.nkOk (encSN p) = true := by
  have e : encSN p = .tup [p.1.enc, .int (p.2 : Nat)] := rfl
  unfold D.nkOk
  rw [e]
  dsimp only
  rw [← e, nk_sn]
  refine decide_eq_true ?_
  show (NestedKey.tup [nkS p.1, .num (p.2 : Nat)]).depth ≤ 8
  simp only [NestedKey.depth, NestedKey.depthAll, nkS_depth]
  decide
def RepN (st : Nat → StaN) (n : Nat) : Prop := ∃ i, i < n ∧ st i = st n
instance (st : Nat → StaN) (n : Nat) : Decidable (RepN st n) := decidable_of_iff (∃ i ∈ List.range n, st i = st n) ⟨fun ⟨i, h, e⟩ => ⟨i, List.mem_range.mp h, e⟩, fun ⟨i, h, e⟩ => ⟨i, List.mem_range.mpr h, e⟩⟩
def dorbN (st : Nat → StaN) (n : Nat) : List (D × D) := (List.range n).map fun i => (encSN (st i), .bl true)
theorem find_orbN (st : Nat → StaN) (t : StaN) : ∀ l : List Nat, (D.findN (encSN t) (l.map fun i => (encSN (st i), .bl true))).isSome = decide (∃ i ∈ l, st i = t)
  | [] => by simp [D.findN]
  | i :: l => by
    show (if D.nk (encSN (st i)) = D.nk (encSN t) then _ else _ : Option D).isSome = _
    by_cases q : st i = t
    · rw [if_pos (by rw [q])]
      simp [q]
    · rw [if_neg]
      · have := find_orbN st t l
        rw [this]
        simp [q]
      · rw [nk_sn, nk_sn]
        intro e
        injection e with e
        exact q (nkSN_inj e)
theorem orbN_in (st : Nat → StaN) (n : Nat) : (D.findN (encSN (st n)) (dorbN st n)).isSome = decide (RepN st n) := by
  unfold dorbN
  rw [find_orbN]
  exact decide_eq_decide.mpr ⟨fun ⟨i, h, e⟩ => ⟨i, List.mem_range.mp h, e⟩, fun ⟨i, h, e⟩ => ⟨i, List.mem_range.mpr h, e⟩⟩
theorem isIn_orbN (st : Nat → StaN) (n : Nat) : D.isIn (encSN (st n)) (.dcn (dorbN st n)) = some (.bl (decide (RepN st n))) := by
  show (if _ then _ else _) = _
  rw [if_pos (nkOk_sn _), orbN_in]
theorem dorbN_set {st : Nat → StaN} {n : Nat} (h : ¬ RepN st n) (hn : n ≤ 1000) : D.setAt (.dcn (dorbN st n)) (encSN (st n)) (.bl true) = some (.dcn (dorbN st (n + 1))) := by
  have e : D.putN (dorbN st n) (encSN (st n)) (.bl true) = dorbN st (n + 1) := by
    unfold D.putN
    have := orbN_in st n
    rw [decide_eq_false h] at this
    rw [this, if_neg (by simp)]
    unfold dorbN
    rw [List.range_succ, List.map_append]
    rfl
  show (if _ then _ else _) = _
  rw [if_pos (by rw [nkOk_sn]; simp [dorbN, lt_lim hn]), e]
/-- a state and a thing in it, from one on -/
def Fl.tr (f : Fl) (s : Sta) (c n : Nat) : StaN := (f.orb s n, f.pos s c n)
theorem tr_succ (f : Fl) (s : Sta) (c n : Nat) : f.tr s c (n + 1) = (f.next (f.tr s c n).1, f.goT (f.tr s c n).1 (f.tr s c n).2) := by
  unfold Fl.tr
  rw [orb_succ]; rfl
theorem tr_shift {f : Fl} {s : Sta} {c i m : Nat} (h : f.tr s c i = f.tr s c m) : ∀ k, f.tr s c (i + k) = f.tr s c (m + k)
  | 0 => h
  | k + 1 => by
    rw [show i + (k + 1) = (i + k) + 1 from rfl, show m + (k + 1) = (m + k) + 1 from rfl, tr_succ, tr_succ, tr_shift h k]
/-- ahead of the first end nothing comes again -/
theorem no_rep {f : Fl} {s : Sta} {c n : Nat} (no : ∀ j, j < n → f.at (f.pos s c j) ≠ .fin) (h : f.at (f.pos s c n) = .fin) {m : Nat} (hm : m ≤ n) : ¬ RepN (f.tr s c) m := by
  rintro ⟨i, hi, e⟩
  have := tr_shift e (n - m)
  rw [show m + (n - m) = n from by omega] at this
  have e2 := congrArg Prod.snd this
  have e3 : f.pos s c (i + (n - m)) = f.pos s c n := e2
  exact no (i + (n - m)) (by omega) (by rw [e3]; exact h)
theorem orb_shift {f : Fl} {s : Sta} {i m : Nat} (h : f.orb s i = f.orb s m) : ∀ k, f.orb s (i + k) = f.orb s (m + k)
  | 0 => h
  | k + 1 => by
    rw [show i + (k + 1) = (i + k) + 1 from rfl, show m + (k + 1) = (m + k) + 1 from rfl, orb_succ, orb_succ, orb_shift h k]
/-! ### counts of cells -/
def bump1 (L : List Nat) (c : Nat) : List Nat := L.set c (L.getD c 0 + 1)
@[simp] theorem bump_len (L : List Nat) (c : Nat) : (bump1 L c).length = L.length := nr (by unfold bump1; simp)
theorem bump_comm (L : List Nat) (a b : Nat) : bump1 (bump1 L a) b = bump1 (bump1 L b) a := by
  refine List.ext_getElem (by simp) fun i h1 h2 => ?_
  unfold bump1
  simp only [List.getElem_set, List.getD_eq_getElem?_getD, List.getElem?_set]
  by_cases ea : a = i <;> by_cases eb : b = i <;> by_cases ab : a = b <;> simp_all
  all_goals (split <;> simp_all)
theorem bump_perm {cs ds : List Nat} (p : cs.Perm ds) (L : List Nat) : cs.foldl bump1 L = ds.foldl bump1 L := p.foldl_eq' (fun x _ y _ z => bump_comm z x y) L
theorem bump_get {L : List Nat} {c : Nat} (h : c < L.length) : D.getN (.lst (nats L)) (.int (c : Int)) = some (.int (L.getD c 0 : Nat)) := by
  show (if (0 : Int) ≤ (c : Int) then atI (nats L) (c : Int) else none) = _
  rw [if_pos (by omega)]
  exact idx_natsL h
theorem bump_set {L : List Nat} {c : Nat} (h : c < L.length) : D.setAt (.lst (nats L)) (.int (c : Int)) (.int ((L.getD c 0 : Nat) + 1)) = some (.lst (nats (bump1 L c))) := by
  rw [setAt_l (by rw [nats_len]; exact h)]
  unfold nats bump1
  rw [List.map_set]; rfl
theorem bumps_len (cs : List Nat) : ∀ L : List Nat, (cs.foldl bump1 L).length = L.length := by
  induction cs with
  | nil => intro L; rfl
  | cons c cs ih => intro L; rw [List.foldl_cons, ih, bump_len]
def Fl.leftL (f : Fl) (s : Sta) : Nat → List Nat
  | 0 => List.replicate f.size 0
  | k + 1 => ((f.moves (f.orb s k)).map (·.1)).foldl bump1 (f.leftL s k)
theorem leftL_len (f : Fl) (s : Sta) : ∀ k, (f.leftL s k).length = f.size
  | 0 => by simp [Fl.leftL]
  | k + 1 => by
    show (((f.moves (f.orb s k)).map (·.1)).foldl bump1 (f.leftL s k)).length = _
    rw [bumps_len, leftL_len f s k]
end L2.Pv

set_option Elab.async false
set_option linter.all false
set_option maxRecDepth 100000
set_option maxHeartbeats 4000000
set_option autoImplicit false
/-! What a step keeps. -/
namespace L2.Pv
open PySem PySem.Spec PyProof.Rows
open PySem.W (dataLe sortLe keyToks keyToksAll alike alikeAll sortLe_total)

/-! ### sorted kinds -/
theorem ltD_str {k j : Nat} (h : k < j) : ltD (.str (kindS k)) (.str (kindS j)) = true := by
  show lexLt itemOrd [.inr [97 + k]] [.inr [97 + j]] = true
  refine lex_true.mpr (.inl ?_)
  show decide ([97 + k] < [97 + j]) = true
  refine decide_eq_true ?_
  rw [List.cons_lt_cons_iff]
  exact .inl (by omega)
theorem kind_anti {k j : Nat} (h1 : dataLe false D.py (.str (kindS k)) (.str (kindS j)) = true) (h2 : dataLe false D.py (.str (kindS j)) (.str (kindS k)) = true) : k = j := by
  rw [dataLe_lt] at h1 h2
  rcases Nat.lt_trichotomy k j with q | q | q
  · rw [ltD_str q] at h2; cases h2
  · exact q
  · rw [ltD_str q] at h1; cases h1
theorem sortX_on {l m : List (Option Nat)} (p : l.Perm m) (h : ∀ o ∈ m, ∃ k, k < 3 ∧ o = some k) (hl : m.length ≤ 1000) : ∃ ds, bSortX [.lst (onD l)] = some (.lst ds) ∧ bSortX [.lst (onD m)] = some (.lst ds) ∧ D.sh 1 (.lst ds) = true := by
  have one : ∀ {l : List (Option Nat)}, (∀ o ∈ l, ∃ k, k < 3 ∧ o = some k) → l.length ≤ 1000 → bSortX [.lst (onD l)] = some (.lst (sortD (onD l))) := fun {l} h hl => by
    cases l with
    | nil =>
      show some (D.lst ((sortI []).map D.int)) = some (D.lst (([] : List D).mergeSort (dataLe false D.py)))
      rw [show sortI [] = [] from by with_unfolding_all rfl]
      simp
    | cons o r =>
      obtain ⟨k, hk, e⟩ := h o List.mem_cons_self
      have hb : bSorted [.lst (onD (o :: r))] = none := by rw [e]; rfl
      unfold bSortX
      rw [hb]
      show (if _ then _ else _) = _
      rw [if_pos]
      rw [Bool.and_eq_true]
      refine ⟨?_, decide_eq_true (le_lim (by unfold onD; simpa using hl))⟩
      have hm : ∀ d ∈ onD (o :: r), ∃ k, k < 3 ∧ d = .str (kindS k) := fun d hd => by
        obtain ⟨o', ho', rfl⟩ := List.mem_map.mp hd
        obtain ⟨k, hk, rfl⟩ := h o' ho'
        exact ⟨k, hk, rfl⟩
      unfold sortOk
      rw [Bool.and_eq_true, Bool.and_eq_true, Bool.or_eq_true, List.all_eq_true]
      refine ⟨⟨fun a ha => ?_, .inr ?_⟩, ?_⟩
      · rw [List.all_eq_true]
        intro b hb
        obtain ⟨k, _, rfl⟩ := hm a ha
        obtain ⟨j, _, rfl⟩ := hm b hb
        rfl
      · rw [List.all_eq_true]
        intro d hd
        obtain ⟨k, _, rfl⟩ := hm d hd
        rfl
      · rw [List.all_eq_true]
        intro d hd
        obtain ⟨k, hk, rfl⟩ := hm d hd
        exact kindS_ok (Nat.lt_trans hk (by decide))
  have hl' : ∀ o ∈ l, ∃ k, k < 3 ∧ o = some k := fun o ho => h o (p.mem_iff.mp ho)
  have pp : (onD l).Perm (onD m) := p.map _
  have e : sortD (onD l) = sortD (onD m) := by
    refine List.Perm.eq_of_pairwise (fun a b ha hb h1 h2 => ?_) (sortD_sorted _) (sortD_sorted _) (((List.mergeSort_perm _ _).trans pp).trans (List.mergeSort_perm _ _).symm)
    have ha := (List.mergeSort_perm _ _).mem_iff.mp ha
    have hb := (List.mergeSort_perm _ _).mem_iff.mp hb
    obtain ⟨o, ho, rfl⟩ := List.mem_map.mp ha
    obtain ⟨o', ho', rfl⟩ := List.mem_map.mp hb
    obtain ⟨k, _, rfl⟩ := hl' o ho
    obtain ⟨j, _, rfl⟩ := h o' ho'
    rw [show k = j from kind_anti h1 h2]
  refine ⟨_, (one hl' (by rw [p.length_eq]; exact hl)).trans (by rw [e]), one h hl, ?_⟩
  show (sortD (onD m)).all (D.sh 0) = true
  rw [List.all_eq_true]
  intro d hd
  have hd := (List.mergeSort_perm _ _).mem_iff.mp hd
  obtain ⟨o, ho, rfl⟩ := List.mem_map.mp hd
  obtain ⟨k, hk, rfl⟩ := h o ho
  exact kindS_ok (Nat.lt_trans hk (by decide))
section
variable {f : Fl} {s : Sta} {c g : Nat}
/-- what came, by moves -/
theorem there_perm (ok : f.Ok) (S : f.SOk s) : (((f.moves s).filter fun p => decide (f.at p.2 = .fin)).map fun p => s.onAt p.1).Perm (f.kinO s) := by
  have hk : f.kinO s = ((f.cameO s).map fun p => (p.2, p.1)).map fun p : Nat × Nat => s.onAt p.1 := by
    unfold Fl.kinO Fl.came
    rw [List.map_map, List.map_map]
    refine List.map_congr_left fun p hp => ?_
    obtain ⟨k, hk, _⟩ := out_kind ok S ((mem_cameO ok).mp hp).2
    show some ((s.onAt p.2).getD 0) = s.onAt p.2
    rw [hk]; rfl
  rw [hk]
  refine List.Perm.map _ ((List.perm_ext_iff_of_nodup ((nd_of_map _ moves_nd).filter _) ?_).mpr fun p => ?_)
  · have : ((f.cameO s).map (·.1)).Nodup := (List.pairwise_map.mpr ((cameO_lt f s).imp fun h => Nat.ne_of_lt h))
    have := nd_of_map _ this
    exact List.pairwise_map.mpr (this.imp fun {a b} h e => h (by
      injection e with e1 e2
      exact Prod.ext e2 e1))
  · rw [List.mem_filter, decide_eq_true_eq, List.mem_map]
    constructor
    · rintro ⟨h1, h2⟩
      exact ⟨(p.2, p.1), (mem_cameO ok).mpr ⟨h2, (mem_moves ok (c := p.1) (g := p.2)).mp h1⟩, rfl⟩
    · rintro ⟨q, hq, rfl⟩
      obtain ⟨h1, h2⟩ := (mem_cameO ok).mp hq
      exact ⟨(mem_moves ok).mpr h2, h1⟩
theorem kinO_kind (ok : f.Ok) (S : f.SOk s) : ∀ o ∈ f.kinO s, ∃ k, k < 3 ∧ o = some k := fun o ho => by
  obtain ⟨r, hr, rfl⟩ := List.mem_map.mp ho
  exact ⟨r.2, (came_ok ok S hr).2.1, rfl⟩
theorem snd_nd (ok : f.Ok) : ((f.moves s).map (·.2)).Nodup := by
  have h := nd_of_map _ (moves_nd (f := f) (s := s))
  refine List.pairwise_map.mpr ((List.Pairwise.and_mem.mp h).imp fun {a b} q e => ?_)
  obtain ⟨ha, hb, hne⟩ := q
  have h1 := (mem_moves ok (c := a.1) (g := a.2)).mp ha
  have h2 := (mem_moves ok (c := b.1) (g := b.2)).mp hb
  rw [← e] at h2
  exact hne (Prod.ext (out_inj h1 h2) e)
/-- a thing that moves is where it went -/
theorem moved_on (ok : f.Ok) (h : f.out s c = some g) (hf : f.at g ≠ .fin) : (f.next s).onAt g = s.onAt c := by
  have hl := out_lt ok h
  rw [next_on hl.2]
  have e1 : f.on1 s g = s.onAt c := by
    unfold Fl.on1
    rw [into_out.mpr h]
    exact if_neg hf
  have hn := (out_goal h).2
  have e2 : f.fresh s g = false := by
    unfold Fl.fresh
    split
    · exact decide_eq_false fun z => hn (e1.symm.trans z.2)
    · rfl
  unfold Fl.on2
  rw [e2]
  exact e1
/-- what has not moved is as it was, but where it was free -/
theorem held_on (ok : f.Ok) (S : f.SOk s) (hc : c < f.size) (h : f.out s c = none) : (f.next s).onAt c = s.onAt c ∨ (s.onAt c = none ∧ ((f.at c).isWell = true ∨ c ∈ (f.moves s).map (·.2))) := by
  rw [next_on hc]
  cases q : f.into s c with
  | some o =>
    right
    have ho := into_out.mp q
    refine ⟨?_, .inr (List.mem_map.mpr ⟨(o, c), (mem_moves ok).mpr ho, rfl⟩)⟩
    rcases out_room ok ho with z | ⟨g', z⟩
    · exact z
    · rw [h] at z; cases z
  | none =>
    have e1 : f.on1 s c = s.onAt c := by
      unfold Fl.on1
      rw [q]
      exact if_pos h
    by_cases z : f.fresh s c = true
    · right
      unfold Fl.fresh at z
      split at z
      · rename_i w
        have := of_decide_eq_true z
        exact ⟨e1.symm.trans this.2, .inl (by rw [w]; rfl)⟩
      · cases z
    · left
      unfold Fl.on2
      rw [if_neg z]
      exact e1
theorem held_stay (ok : f.Ok) (S : f.SOk s) (hc : c < f.size) (h : f.out s c = none) (ho : s.onAt c ≠ none) : (f.next s).onAt c ≠ none := by
  rcases held_on ok S hc h with e | ⟨e, _⟩
  · rw [e]; exact ho
  · exact absurd e ho
/-! ### rounds -/
theorem orb_orb (f : Fl) (s : Sta) (m k : Nat) : f.orb (f.orb s m) k = f.orb s (m + k) := (orb_add f s m k).symm
theorem orb_red {i n : Nat} (F : First (f.orb s) i n) : ∀ j, ∃ j', j' < n ∧ f.orb s j = f.orb s j' := fun j => by
  induction j using Nat.strongRecOn with
  | ind j ih =>
    rcases Nat.lt_or_ge j n with h | h
    · exact ⟨j, h, rfl⟩
    · have e := orb_shift F.eq (j - n)
      rw [show n + (j - n) = j from by omega] at e
      obtain ⟨j', h1, h2⟩ := ih (i + (j - n)) (by have := F.lt; omega)
      exact ⟨j', h1, e.symm.trans h2⟩
theorem rep_later {i n : Nat} (F : First (f.orb s) i n) (m : Nat) : ∃ i' n', n' ≤ n ∧ First (f.orb (f.orb s m)) i' n' := by
  have : Rep (f.orb (f.orb s m)) n := ⟨i, F.lt, by
    have := orb_shift F.eq m
    rw [orb_orb, orb_orb, Nat.add_comm m i, Nat.add_comm m n]
    exact this⟩
  obtain ⟨i', n', h, F'⟩ := First.of this
  exact ⟨i', n', h, F'⟩
theorem first_again {t : Sta} {i n : Nat} (F : First (f.orb t) i n) : First (f.orb (f.orb t i)) 0 (n - i) where
  lt := by have := F.lt; omega
  eq := by
    rw [orb_orb, orb_orb, Nat.add_zero, show i + (n - i) = n from by have := F.lt; omega]
    exact F.eq
  no := fun m hm => fun ⟨a, ha, e⟩ => F.no (i + m) (by omega) ⟨i + a, by omega, by rw [orb_orb, orb_orb] at e; exact e⟩
theorem first_next {t : Sta} {n : Nat} (F : First (f.orb t) 0 n) : First (f.orb (f.next t)) 0 n where
  lt := F.lt
  eq := by
    have h1 : ∀ k, f.orb (f.next t) k = f.orb t (k + 1) := fun k => by
      rw [Nat.add_comm, ← orb_orb f t 1 k]; rfl
    rw [h1, h1]
    have := orb_shift F.eq 1
    rw [Nat.zero_add] at this
    exact this
  no := fun m hm => fun ⟨a, ha, e⟩ => by
    have h1 : ∀ k, f.orb (f.next t) k = f.orb t (k + 1) := fun k => by
      rw [Nat.add_comm, ← orb_orb f t 1 k]; rfl
    rw [h1, h1] at e
    rcases Nat.lt_or_ge (m + 1) n with q | q
    · exact F.no (m + 1) q ⟨a + 1, by omega, e⟩
    · have : m + 1 = n := by omega
      rw [this, ← F.eq] at e
      exact F.no (a + 1) (by omega) ⟨0, by omega, e.symm⟩
theorem mem_stuck {n : Nat} : c ∈ f.stuckL s n ↔ c < f.size ∧ s.onAt c ≠ none ∧ ∀ j, j < n → f.out (f.orb s j) c = none := by
  unfold Fl.stuckL
  rw [List.mem_filter, List.mem_range]
  simp [movedIn]
theorem stuck_ever (ok : f.Ok) (S : f.SOk s) {i n : Nat} (F : First (f.orb s) i n) (h : c ∈ f.stuckL s n) (j : Nat) : f.out (f.orb s j) c = none ∧ (f.orb s j).onAt c ≠ none := by
  obtain ⟨h1, h2, h3⟩ := mem_stuck.mp h
  have out : ∀ j, f.out (f.orb s j) c = none := fun j => by
    obtain ⟨j', a, e⟩ := orb_red F j
    rw [e]; exact h3 j' a
  refine ⟨out j, ?_⟩
  induction j with
  | zero => exact h2
  | succ j ih =>
    rw [orb_succ]
    exact held_stay ok (orb_ok ok S j) h1 (out j) ih
end
end L2.Pv

set_option Elab.async false
set_option linter.all false
set_option maxRecDepth 100000
set_option maxHeartbeats 4000000
set_option autoImplicit false
/-! Things followed: where they are, that they stay apart. -/
namespace L2.Pv
open PySem PySem.Spec PyProof.Rows

section
variable {f : Fl} {s : Sta} {c g : Nat}
theorem go_keeps (ok : f.Ok) (S : f.SOk s) (hc : c < f.size) (ho : s.onAt c ≠ none) : f.at (f.goT s c) = .fin ∨ (f.next s).onAt (f.goT s c) = s.onAt c := by
  unfold Fl.goT
  cases q : f.out s c with
  | some g =>
    by_cases z : f.at g = .fin
    · exact .inl z
    · exact .inr (moved_on ok q z)
  | none =>
    right
    rcases held_on ok S hc q with e | ⟨e, _⟩
    · exact e
    · exact absurd e ho
theorem pos_on (ok : f.Ok) (S : f.SOk s) (hc : c < f.size) (ho : s.onAt c ≠ none) : ∀ n, (∀ j, j < n → f.at (f.pos s c (j + 1)) ≠ .fin) → (f.orb s n).onAt (f.pos s c n) = s.onAt c
  | 0, _ => rfl
  | n + 1, h => by
    have ih := pos_on ok S hc ho n fun j hj => h j (by omega)
    have := go_keeps ok (orb_ok ok S n) (pos_lt ok hc n) (by rw [ih]; exact ho)
    rw [orb_succ]
    show (f.next (f.orb s n)).onAt (f.goT (f.orb s n) (f.pos s c n)) = _
    rcases this with z | z
    · exact absurd z (h n (by omega))
    · rw [z, ih]
theorem go_inj (ok : f.Ok) {c' : Nat} (ho : s.onAt c ≠ none) (ho' : s.onAt c' ≠ none) (h : f.goT s c = f.goT s c') : c = c' := by
  unfold Fl.goT at h
  have room : ∀ {a b : Nat}, s.onAt b ≠ none → f.out s b = none → f.out s a = some b → False := fun {a b} h1 h2 h3 => by
    rcases out_room ok h3 with z | ⟨g', z⟩
    · exact h1 z
    · rw [h2] at z; cases z
  cases q : f.out s c with
  | some g =>
    cases q' : f.out s c' with
    | some g' =>
      rw [q, q'] at h
      have h : g = g' := h
      rw [← h] at q'
      exact out_inj q q'
    | none =>
      rw [q, q'] at h
      have h : g = c' := h
      rw [h] at q
      exact (room ho' q' q).elim
  | none =>
    cases q' : f.out s c' with
    | some g' =>
      rw [q, q'] at h
      have h : c = g' := h
      rw [← h] at q'
      exact (room ho q q').elim
    | none =>
      rw [q, q'] at h
      exact h
/-- no two things are in one cell at once -/
theorem pos_inj (ok : f.Ok) (S : f.SOk s) {c' : Nat} (hc : c < f.size) (hc' : c' < f.size) (ho : s.onAt c ≠ none) (ho' : s.onAt c' ≠ none) : ∀ n, (∀ j, j < n → f.at (f.pos s c (j + 1)) ≠ .fin) → (∀ j, j < n → f.at (f.pos s c' (j + 1)) ≠ .fin) → f.pos s c n = f.pos s c' n → c = c'
  | 0, _, _, h => h
  | n + 1, h1, h2, h => by
    have h1' := fun j (hj : j < n) => h1 j (by omega)
    have h2' := fun j (hj : j < n) => h2 j (by omega)
    have e1 := pos_on ok S hc ho n h1'
    have e2 := pos_on ok S hc' ho' n h2'
    exact pos_inj ok S hc hc' ho ho' n h1' h2' (go_inj ok (by rw [e1]; exact ho) (by rw [e2]; exact ho') h)
theorem mem_came (ok : f.Ok) (S : f.SOk s) {k : Nat} (h : f.out s c = some g) (hf : f.at g = .fin) (hk : s.onAt c = some k) : (g, k) ∈ f.came s := by
  unfold Fl.came
  refine List.mem_map.mpr ⟨(g, c), (mem_cameO ok).mpr ⟨hf, h⟩, ?_⟩
  show (g, (s.onAt c).getD 0) = _
  rw [hk]; rfl
/-- a thing comes to its end with its kind -/
theorem end_came (ok : f.Ok) (S : f.SOk s) {k n : Nat} (hc : c < f.size) (hk : s.onAt c = some k) (no : ∀ j, j < n + 1 → f.at (f.pos s c j) ≠ .fin) (h : f.at (f.pos s c (n + 1)) = .fin) : (f.pos s c (n + 1), k) ∈ f.came (f.orb s n) := by
  have ho : s.onAt c ≠ none := by rw [hk]; exact fun e => by cases e
  have e := pos_on ok S hc ho n fun j hj => no (j + 1) (by omega)
  rw [hk] at e
  have hg : f.pos s c (n + 1) = f.goT (f.orb s n) (f.pos s c n) := rfl
  cases q : f.out (f.orb s n) (f.pos s c n) with
  | some g =>
    have : f.goT (f.orb s n) (f.pos s c n) = g := by unfold Fl.goT; rw [q]; rfl
    rw [hg, this] at h ⊢
    exact mem_came ok (orb_ok ok S n) q h e
  | none =>
    have : f.goT (f.orb s n) (f.pos s c n) = f.pos s c n := by unfold Fl.goT; rw [q]; rfl
    rw [hg, this] at h
    exact absurd h (no n (by omega))
theorem addC_keys {C : Cnt} {r x : Nat × Nat} : x ∈ (addC C r).map (·.1) ↔ x ∈ C.map (·.1) ∨ x = r := by
  unfold addC
  by_cases h : (C.lookup r).isSome = true
  · have hr := lookup_isSome.mp h
    rw [if_pos h, List.map_map]
    have : (C.map ((fun q : (Nat × Nat) × Nat => q.1) ∘ fun p => if p.1 = r then (p.1, (C.lookup r).getD 0 + 1) else p)) = C.map (·.1) := by
      refine List.map_congr_left fun p _ => ?_
      show (if p.1 = r then (p.1, (C.lookup r).getD 0 + 1) else p).1 = p.1
      split <;> rfl
    rw [this]
    exact ⟨.inl, fun z => z.elim id fun e => by rw [e]; exact hr⟩
  · rw [if_neg h, List.map_append, List.mem_append]
    simp
theorem addCs_keys {x : Nat × Nat} : ∀ {l : List (Nat × Nat)} {C : Cnt}, x ∈ (addCs C l).map (·.1) ↔ x ∈ C.map (·.1) ∨ x ∈ l
  | [], C => by simp [addCs]
  | r :: l, C => by
    show x ∈ (addCs (addC C r) l).map (·.1) ↔ _
    rw [addCs_keys, addC_keys, List.mem_cons, or_assoc]
/-- what is stuck is where it is -/
theorem pos_stuck (h : ∀ j, f.out (f.orb s j) c = none) : ∀ n, f.pos s c n = c
  | 0 => rfl
  | n + 1 => by
    show f.goT (f.orb s n) (f.pos s c n) = c
    rw [pos_stuck h n]
    unfold Fl.goT
    rw [h n]; rfl
theorem left_none (h : f.goals c = []) (hc : c < f.size) (s : Sta) : ∀ n, (f.leftL s n).getD c 0 = 0
  | 0 => by
    show (List.replicate f.size 0).getD c 0 = 0
    rw [List.getD_eq_getElem?_getD, List.getElem?_replicate]
    split <;> rfl
  | n + 1 => by
    have ih := left_none h hc s n
    have hn : c ∉ (f.moves (f.orb s n)).map (·.1) := fun hm => by
      rw [moves_fst, List.mem_filter] at hm
      cases q : f.out (f.orb s n) c with
      | none => rw [q] at hm; cases hm.2
      | some g =>
        have := (out_goal q).1
        rw [h] at this; cases this
    have keep : ∀ (cs : List Nat) (L : List Nat), c ∉ cs → (cs.foldl bump1 L).getD c 0 = L.getD c 0 := fun cs => by
      induction cs with
      | nil => intro L _; rfl
      | cons a cs ihc =>
        intro L hn
        rw [List.foldl_cons, ihc _ fun z => hn (List.mem_cons_of_mem _ z)]
        unfold bump1
        rw [List.getD_eq_getElem?_getD, List.getElem?_set_ne (fun e => hn (by rw [e]; exact List.mem_cons_self)), ← List.getD_eq_getElem?_getD]
    show (((f.moves (f.orb s n)).map (·.1)).foldl bump1 (f.leftL s n)).getD c 0 = 0
    rw [keep _ _ hn, ih]
end
end L2.Pv

set_option Elab.async false
set_option linter.all false
set_option maxRecDepth 100000
set_option maxHeartbeats 4000000
set_option autoImplicit false
/-! Rings alone on a floor. -/
namespace L2.Pv
open PySem PySem.Spec PyProof.Rows

/-- the cell at a place of a path -/
def pc (p : List Nat) (i : Nat) : Nat := p.getD (i % p.length) 0
structure RingF (f : Fl) (p : List Nat) : Prop where
  ok : f.Ok
  nd : p.Nodup
  lt : ∀ c ∈ p, c < f.size
  pos : 0 < p.length
  go : ∀ i, i < p.length → f.goals (pc p i) = [pc p (i + 1)]
  co : ∀ i, i < p.length → f.comers (pc p (i + 1)) = [pc p i]
  belt : ∀ c ∈ p, f.at c ≠ .wall ∧ f.at c ≠ .fin ∧ (f.at c).isWell = false ∧ (f.at c).isP = false
  wall : ∀ c, c < f.size → c ∉ p → f.at c = .wall
section
variable {f : Fl} {p : List Nat} {s : Sta}
theorem pc_mem (R : RingF f p) (i : Nat) : pc p i ∈ p := getD_mem (Nat.mod_lt _ R.pos)
theorem pc_lt (R : RingF f p) (i : Nat) : pc p i < f.size := R.lt _ (pc_mem R i)
theorem pc_mod (p : List Nat) (i : Nat) : pc p (i % p.length) = pc p i := by unfold pc; rw [Nat.mod_mod]
theorem pc_of (R : RingF f p) {c : Nat} (h : c ∈ p) : ∃ i, i < p.length ∧ pc p i = c := by
  obtain ⟨i, hi, e⟩ := List.getElem_of_mem h
  refine ⟨i, hi, ?_⟩
  unfold pc
  rw [Nat.mod_eq_of_lt hi, List.getD_eq_getElem?_getD, List.getElem?_eq_getElem hi]
  exact e
theorem go' (R : RingF f p) (i : Nat) : f.goals (pc p i) = [pc p (i + 1)] := by
  have h := R.go (i % p.length) (Nat.mod_lt _ R.pos)
  rw [pc_mod] at h
  rw [h]
  unfold pc
  rw [Nat.mod_add_mod]
theorem co' (R : RingF f p) (i : Nat) : f.comers (pc p (i + 1)) = [pc p i] := by
  have h := R.co (i % p.length) (Nat.mod_lt _ R.pos)
  rw [pc_mod] at h
  rw [← h]
  unfold pc
  rw [Nat.mod_add_mod]
/-- the place before -/
theorem pc_back (R : RingF f p) (i : Nat) : ∃ j, pc p (j + 1) = pc p i := ⟨i + p.length - 1, by
  have := R.pos
  unfold pc
  rw [show i + p.length - 1 + 1 = i + p.length from by omega, Nat.add_mod_right]⟩
theorem wall_comers {c : Nat} (ok : f.Ok) (h : f.at c = .wall) : f.comers c = [] := by
  unfold Fl.comers
  rw [List.filter_eq_nil_iff]
  intro o _ h2
  exact goal_word (of_decide_eq_true h2) h
theorem comers1 (R : RingF f p) {c : Nat} (hc : c < f.size) : (f.comers c).length ≤ 1 := by
  by_cases h : c ∈ p
  · obtain ⟨i, _, e⟩ := pc_of R h
    obtain ⟨j, hj⟩ := pc_back R i
    rw [← e, ← hj, co' R j]
    simp
  · rw [wall_comers R.ok (R.wall c hc h)]; simp
theorem kind_at (R : RingF f p) {c : Nat} (hc : c < f.size) : f.at c ≠ .fin ∧ (f.at c).isWell = false ∧ (f.at c).isP = false := by
  by_cases h : c ∈ p
  · exact (R.belt c h).2
  · rw [R.wall c hc h]; exact ⟨by simp, rfl, rfl⟩
theorem ring_zero (R : RingF f p) (S : f.SOk s) {c : Nat} (hc : c < f.size) : s.turnAt c = 0 ∧ s.waitAt c = 0 := by
  obtain ⟨k1, k2, k3⟩ := kind_at R hc
  have h := S.tn c hc
  unfold Fl.TurnOk at h
  rw [k3, if_neg (by simp)] at h
  have hm := comers1 R hc
  unfold Fl.many at h
  have hw := S.wt c hc
  have : (f.at c).wmax = 0 := by
    cases q : f.at c with
    | well a b c => rw [q] at k2; cases k2
    | _ => rfl
  omega
theorem ring_off (R : RingF f p) (S : f.SOk s) {c : Nat} (hc : c < f.size) (h : c ∉ p) : s.onAt c = none := by
  cases q : s.onAt c with
  | none => rfl
  | some k => exact absurd (R.wall c hc h) (S.on c hc k q).2.1
theorem ring_ext (R : RingF f p) {t : Sta} (S : f.SOk s) (T : f.SOk t) (h : ∀ i, i < p.length → s.onAt (pc p i) = t.onAt (pc p i)) : s = t :=
  SOk.ext S T fun c hc => by
    have a := ring_zero R S hc
    have b := ring_zero R T hc
    refine ⟨?_, a.1.trans b.1.symm, a.2.trans b.2.symm⟩
    by_cases q : c ∈ p
    · obtain ⟨i, hi, rfl⟩ := pc_of R q
      exact h i hi
    · rw [ring_off R S hc q, ring_off R T hc q]
theorem ring_wish (R : RingF f p) (i : Nat) : f.wish s (pc p i) = if s.onAt (pc p i) = none then none else some (pc p (i + 1)) := by
  unfold Fl.wish
  rw [go' R i]
  cases s.onAt (pc p i) <;> simp
theorem ring_let (R : RingF f p) {i : Nat} (h : s.onAt (pc p i) ≠ none) : f.letTo s (pc p i) = some (pc p (i + 1)) := by
  rw [letTo_iff]
  unfold Fl.winner
  rw [co' R i]
  have hm : pc p i ∈ rotN [pc p i] (f.base s (pc p (i + 1))) := mem_rotN.mpr (List.mem_singleton.mpr rfl)
  have hw : decide (f.wish s (pc p i) = some (pc p (i + 1))) = true := by rw [ring_wish R i, if_neg h]; simp
  cases q : (rotN [pc p i] (f.base s (pc p (i + 1)))).find? fun o => decide (f.wish s o = some (pc p (i + 1))) with
  | none => exact absurd hw (by have := List.find?_eq_none.mp q _ hm; simpa using this)
  | some o =>
    have := mem_rotN.mp (List.mem_of_find?_eq_some q)
    rw [List.mem_singleton.mp this]
theorem ring_go (R : RingF f p) {i : Nat} (h : s.onAt (pc p i) ≠ none) : f.go s (pc p i) = true :=
  go_max R.ok (fun c => ∃ i, c = pc p i ∧ s.onAt c ≠ none) (fun c ⟨j, e, hj⟩ => by
    subst e
    refine ⟨_, ring_let R hj, ?_⟩
    by_cases q : s.onAt (pc p (j + 1)) = none
    · exact .inl q
    · exact .inr ⟨j + 1, rfl, q⟩) ⟨i, rfl, h⟩
theorem ring_out (R : RingF f p) (i : Nat) : f.out s (pc p i) = if s.onAt (pc p i) = none then none else some (pc p (i + 1)) := by
  by_cases h : s.onAt (pc p i) = none
  · rw [if_pos h]
    cases q : f.out s (pc p i) with
    | none => rfl
    | some g => exact absurd h (out_goal q).2
  · rw [if_neg h]
    exact out_iff.mpr ⟨ring_let R h, ring_go R h⟩
theorem ring_into (R : RingF f p) (i : Nat) : f.into s (pc p (i + 1)) = if s.onAt (pc p i) = none then none else some (pc p i) := by
  by_cases h : s.onAt (pc p i) = none
  · rw [if_pos h]
    cases q : f.into s (pc p (i + 1)) with
    | none => rfl
    | some o =>
      have h1 := into_comer q
      rw [co' R i, List.mem_singleton] at h1
      subst h1
      exact absurd h (out_goal (into_out.mp q)).2
  · rw [if_neg h]
    rw [into_out, ring_out R i, if_neg h]
theorem ring_next (R : RingF f p) (S : f.SOk s) (i : Nat) : (f.next s).onAt (pc p (i + 1)) = s.onAt (pc p i) := by
  have hlt := pc_lt R (i + 1)
  obtain ⟨k1, k2, k3⟩ := kind_at R hlt
  rw [next_on hlt]
  have hf : f.fresh s (pc p (i + 1)) = false := by
    unfold Fl.fresh
    cases q : f.at (pc p (i + 1)) with
    | well a b c => rw [q] at k2; cases k2
    | _ => rfl
  unfold Fl.on2
  rw [hf, if_neg (by simp)]
  unfold Fl.on1
  rw [ring_into R i]
  by_cases h : s.onAt (pc p i) = none
  · rw [if_pos h, h]
    show (if f.out s (pc p (i + 1)) = none then _ else _) = _
    rw [ring_out R (i + 1)]
    by_cases q : s.onAt (pc p (i + 1)) = none
    · simp [q]
    · simp [q]
  · rw [if_neg h]
    exact if_neg k1
theorem ring_orb (R : RingF f p) (S : f.SOk s) (i : Nat) : ∀ k, (f.orb s k).onAt (pc p (i + k)) = s.onAt (pc p i)
  | 0 => rfl
  | k + 1 => by
    rw [orb_succ]
    exact (ring_next R (orb_ok R.ok S k) (i + k)).trans (ring_orb R S i k)
theorem ring_back (R : RingF f p) (S : f.SOk s) : f.orb s p.length = s := ring_ext R (orb_ok R.ok S _) S fun i _ => by
  have := ring_orb R S i p.length
  have e : pc p (i + p.length) = pc p i := by unfold pc; rw [Nat.add_mod_right]
  rw [e] at this
  exact this
theorem ring_first (R : RingF f p) (S : f.SOk s) : ∃ i n, n ≤ p.length ∧ First (f.orb s) i n := by
  obtain ⟨i, n, h, F⟩ := First.of (st := f.orb s) (n := p.length) ⟨0, R.pos, (ring_back R S).symm⟩
  exact ⟨i, n, h, F⟩
theorem ring_stuck (R : RingF f p) (S : f.SOk s) {n : Nat} (hn : 0 < n) : f.stuckL s n = [] := by
  rw [List.eq_nil_iff_forall_not_mem]
  intro c h
  obtain ⟨h1, h2, h3⟩ := mem_stuck.mp h
  by_cases q : c ∈ p
  · obtain ⟨i, _, rfl⟩ := pc_of R q
    have := h3 0 hn
    rw [orb_zero, ring_out R i, if_neg h2] at this
    cases this
  · exact h2 (ring_off R S h1 q)
theorem ring_came (R : RingF f p) (s : Sta) : f.came s = [] := by
  have : f.cameO s = [] := by
    unfold Fl.cameO
    rw [List.filterMap_eq_nil_iff]
    intro c hc
    exact if_neg (kind_at R (List.mem_range.mp hc)).1
  unfold Fl.came
  rw [this]; rfl
theorem ring_run (R : RingF f p) : ∀ (n : Nat) (z : Sta × Cnt), (f.runN n z).2 = z.2
  | 0, z => rfl
  | n + 1, z => by
    show (f.runN n (f.runC z)).2 = z.2
    rw [ring_run R n]
    show addCs z.2 (f.came z.1) = z.2
    rw [ring_came R]; rfl
theorem sortD_nil : sortD [] = [] := List.perm_nil.mp (sortD_perm [])
theorem rowsC_nil : rowsC [] = [] := sortD_nil
theorem ring_after (R : RingF f p) (n : Nat) : f.afterD s n = .tup [(f.orb s n).enc, .lst []] := by
  unfold Fl.afterD
  rw [ring_run R, rowsC_nil]; rfl
theorem zero_next (R : RingF f p) : f.next f.zero = f.zero := ring_ext R (next_ok R.ok (zero_ok f)) (zero_ok f) fun i _ => by
  obtain ⟨j, hj⟩ := pc_back R i
  rw [← hj, ring_next R (zero_ok f), zero_on, zero_on]
theorem zero_first (R : RingF f p) : First (f.orb f.zero) 0 1 := ⟨Nat.one_pos, (zero_next R).symm, fun m hm ⟨i, hi, _⟩ => by omega⟩
theorem zero_rest (R : RingF f p) : f.rest f.zero = true := by
  rw [rest_iff]
  refine ⟨?_, fun c hc h => ?_⟩
  · rw [List.eq_nil_iff_forall_not_mem]
    intro q hq
    exact (out_goal ((mem_moves R.ok (c := q.1) (g := q.2)).mp hq)).2 (zero_on f _)
  · rw [(kind_at R hc).2.1] at h; cases h
theorem ring_not_rest (R : RingF f p) {i : Nat} (h : s.onAt (pc p i) ≠ none) : f.rest s = false := by
  cases q : f.rest s with
  | false => rfl
  | true =>
    have h1 := (rest_iff.mp q).1
    have h2 : (pc p i, pc p (i + 1)) ∈ f.moves s := (mem_moves R.ok).mpr (by rw [ring_out R i, if_neg h])
    rw [h1] at h2; cases h2
theorem ring_lost (R : RingF f p) : f.lost = sortN p := by
  have e : f.lost = (List.range f.size).filter fun c => !decide (f.at c = .wall) := by
    have key : ∀ (l m : List Nat), (∀ c ∈ l, c < f.size) → l.foldl f.lostStep m = m ++ l.filter fun c => !decide (f.at c = .wall) := fun l => by
      induction l with
      | nil => intro m _; simp
      | cons c l ih =>
        intro m h
        rw [List.foldl_cons, ih _ fun x hx => h x (List.mem_cons_of_mem _ hx)]
        have hno : (allFrom f.goals c).filter (fun x => decide (f.at x = .fin)) = [] := by
          rw [List.filter_eq_nil_iff]
          intro x hx hxf
          have hx : x ∈ allFrom f.goals c := hx
          have hf := of_decide_eq_true hxf
          by_cases q : x < f.size
          · exact (kind_at R q).1 hf
          · unfold Fl.at at hf
            rw [List.getD_eq_getElem?_getD, List.getElem?_eq_none (by unfold Fl.size at q; omega)] at hf
            cases hf
        unfold Fl.lostStep
        by_cases q : f.at c = .wall
        · simp [q]
        · rw [if_pos ⟨q, hno⟩]
          simp [q]
    have := key (List.range f.size) [] fun c h => List.mem_range.mp h
    rw [List.nil_append] at this
    exact this
  rw [e]
  refine (sortN_one ((List.perm_ext_iff_of_nodup R.nd (List.nodup_range.filter _)).mpr fun c => ?_) (List.pairwise_lt_range.filter _ |>.imp Nat.le_of_lt)).symm
  rw [List.mem_filter, List.mem_range]
  constructor
  · intro h
    exact ⟨R.lt c h, by simp [(R.belt c h).1]⟩
  · rintro ⟨h1, h2⟩
    by_cases q : c ∈ p
    · exact q
    · rw [R.wall c h1 q] at h2; simp at h2
end
end L2.Pv

set_option Elab.async false
set_option linter.all false
set_option maxRecDepth 100000
set_option maxHeartbeats 4000000
set_option autoImplicit false
/-! A floor within another: cells at places, kinds with other names. -/
namespace L2.Pv
open PySem PySem.Spec PyProof.Rows
open PySem.W (dataLe sortLe keyToks keyToksAll alike alikeAll sortLe_total)

def Cell.rel (κ : Nat → Nat) : Cell → Cell
  | .well s k w => .well s (κ k) w
  | c => c
theorem rel_fin {κ : Nat → Nat} {c : Cell} : c.rel κ = .fin ↔ c = .fin := by cases c <;> simp [Cell.rel]
theorem rel_isP (κ : Nat → Nat) (c : Cell) : (c.rel κ).isP = c.isP := by cases c <;> rfl
theorem rel_wmax (κ : Nat → Nat) (c : Cell) : (c.rel κ).wmax = c.wmax := by cases c <;> rfl
theorem rel_isWell (κ : Nat → Nat) (c : Cell) : (c.rel κ).isWell = c.isWell := by cases c <;> rfl
theorem rel_id (c : Cell) : c.rel id = c := by cases c <;> rfl
structure Emb (f g : Fl) (φ κ : Nat → Nat) : Prop where
  fo : f.Ok
  go : g.Ok
  lt : ∀ c, c < f.size → φ c < g.size
  inj : ∀ a b, a < f.size → b < f.size → φ a = φ b → a = b
  kin : ∀ a b, a < 3 → b < 3 → κ a = κ b → a = b
  at_ : ∀ c, c < f.size → g.at (φ c) = (f.at c).rel κ
  gl : ∀ c, c < f.size → g.goals (φ c) = (f.goals c).map φ
  co : ∀ c, c < f.size → g.comers (φ c) = (f.comers c).map φ
structure SimS (f : Fl) (φ κ : Nat → Nat) (s t : Sta) : Prop where
  on : ∀ c, c < f.size → t.onAt (φ c) = (s.onAt c).map κ
  tu : ∀ c, c < f.size → t.turnAt (φ c) = s.turnAt c
  wa : ∀ c, c < f.size → t.waitAt (φ c) = s.waitAt c
theorem find_map_congr {φ : Nat → Nat} {p : Nat → Bool} {q : Nat → Bool} : ∀ {l : List Nat}, (∀ x ∈ l, q (φ x) = p x) → (l.map φ).find? q = (l.find? p).map φ
  | [], _ => rfl
  | x :: l, h => by
    rw [List.map_cons, List.find?_cons, List.find?_cons, h x List.mem_cons_self]
    cases p x with
    | true => rfl
    | false => exact find_map_congr fun y hy => h y (List.mem_cons_of_mem _ hy)
theorem idxOf_map_inj {φ : Nat → Nat} {x : Nat} : ∀ {l : List Nat}, (∀ y ∈ l, φ y = φ x → y = x) → (l.map φ).idxOf (φ x) = l.idxOf x
  | [], _ => rfl
  | y :: l, h => by
    rw [List.map_cons, List.idxOf_cons, List.idxOf_cons, idxOf_map_inj fun z hz => h z (List.mem_cons_of_mem _ hz)]
    by_cases e : y = x
    · subst e; simp only [beq_self_eq_true]
    · have : ¬ φ y = φ x := fun z => e (h y List.mem_cons_self z)
      rw [beq_eq_false_iff_ne.mpr e, beq_eq_false_iff_ne.mpr this]
theorem rotN_map (φ : Nat → Nat) (l : List Nat) (t : Nat) : rotN (l.map φ) t = (rotN l t).map φ := by
  unfold rotN
  rw [List.map_append, List.map_drop, List.map_take]
section
variable {f g : Fl} {φ κ : Nat → Nat} {s t : Sta} {c : Nat}
theorem sim_free (M : SimS f φ κ s t) (hc : c < f.size) : t.onAt (φ c) = none ↔ s.onAt c = none := by
  rw [M.on c hc]; cases s.onAt c <;> simp
theorem emb_isP (E : Emb f g φ κ) (hc : c < f.size) : (g.at (φ c)).isP = (f.at c).isP := by rw [E.at_ c hc, rel_isP]
theorem emb_fin (E : Emb f g φ κ) (hc : c < f.size) : g.at (φ c) = .fin ↔ f.at c = .fin := by rw [E.at_ c hc, rel_fin]
theorem sim_pick (M : SimS f φ κ s t) {a b : Nat} (ha : a < f.size) (hb : b < f.size) (n : Nat) : pick2 t n (φ a) (φ b) = φ (pick2 s n a b) := by
  unfold pick2
  simp only [Ne, sim_free M ha, sim_free M hb]
  by_cases h : n % 2 = 0
  · rw [if_pos h, if_pos h]
    exact (apply_ite φ _ _ _).symm
  · rw [if_neg h, if_neg h]
    exact (apply_ite φ _ _ _).symm
theorem sim_wish (E : Emb f g φ κ) (M : SimS f φ κ s t) (hc : c < f.size) : g.wish t (φ c) = (f.wish s c).map φ := by
  have hl := fun x (hx : x ∈ f.goals c) => goals_lt E.fo hx
  unfold Fl.wish
  rw [E.gl c hc, M.on c hc, M.tu c hc]
  generalize f.goals c = l at hl
  cases s.onAt c with
  | none => rfl
  | some k =>
    match l, hl with
    | [], _ => rfl
    | [x], _ => rfl
    | x :: y :: r, hl =>
      show some (pick2 t (s.turnAt c) (φ x) (φ y)) = some (φ (pick2 s (s.turnAt c) x y))
      rw [sim_pick M (hl x (by simp)) (hl y (by simp))]
theorem wish_lt (ok : f.Ok) {x : Nat} (h : f.wish s c = some x) : x < f.size := goals_lt ok (wish_mem h).1
theorem sim_base (E : Emb f g φ κ) (M : SimS f φ κ s t) (hc : c < f.size) : g.base t (φ c) = f.base s c := by
  unfold Fl.base
  rw [emb_isP E hc, M.tu c hc]
theorem wish_eq_iff (E : Emb f g φ κ) (hc : c < f.size) {o : Option Nat} (ho : ∀ x, o = some x → x < f.size) : o.map φ = some (φ c) ↔ o = some c := by
  cases o with
  | none => simp
  | some x =>
    rw [Option.map_some]
    constructor
    · intro h
      injection h with h
      rw [E.inj x c (ho x rfl) hc h]
    · intro h
      injection h with h
      rw [h]
theorem sim_winner (E : Emb f g φ κ) (M : SimS f φ κ s t) (hc : c < f.size) : g.winner t (φ c) = (f.winner s c).map φ := by
  unfold Fl.winner
  rw [E.co c hc, sim_base E M hc, rotN_map]
  refine find_map_congr fun o ho => ?_
  have hlt := comers_lt E.fo (mem_rotN.mp ho)
  rw [sim_wish E M hlt]
  exact decide_eq_decide.mpr (wish_eq_iff E hc fun x hx => wish_lt E.fo hx)
theorem winner_lt (ok : f.Ok) {x : Nat} (h : f.winner s c = some x) : x < f.size := comers_lt ok (winner_wish h).2
theorem sim_let (E : Emb f g φ κ) (M : SimS f φ κ s t) (hc : c < f.size) : g.letTo t (φ c) = (f.letTo s c).map φ := by
  unfold Fl.letTo
  rw [sim_wish E M hc]
  cases q : f.wish s c with
  | none => rfl
  | some x =>
    have hx := wish_lt E.fo q
    show (if g.winner t (φ x) = some (φ c) then some (φ x) else none) = Option.map φ (if f.winner s x = some c then some x else none)
    rw [sim_winner E M hx]
    by_cases h : f.winner s x = some c
    · rw [if_pos h, if_pos ((wish_eq_iff E hc fun y hy => winner_lt E.fo hy).mpr h)]; rfl
    · rw [if_neg h, if_neg fun z => h ((wish_eq_iff E hc fun y hy => winner_lt E.fo hy).mp z)]; rfl
theorem sim_may (E : Emb f g φ κ) (M : SimS f φ κ s t) : ∀ (k : Nat) {c : Nat}, c < f.size → g.may t k (φ c) = f.may s k c
  | 0, _, _ => rfl
  | k + 1, c, hc => by
    unfold Fl.may
    rw [sim_let E M hc]
    cases q : f.letTo s c with
    | none => rfl
    | some x =>
      have hx := letTo_lt E.fo q
      show (decide (t.onAt (φ x) = none) || g.may t k (φ x)) = (decide (s.onAt x = none) || f.may s k x)
      rw [sim_may E M k hx, decide_eq_decide.mpr (sim_free M hx)]
theorem sim_go (E : Emb f g φ κ) (M : SimS f φ κ s t) (hc : c < f.size) : g.go t (φ c) = f.go s c := by
  rw [Bool.eq_iff_iff, go_iff E.go (E.lt c hc), go_iff E.fo hc]
  exact ⟨fun h m => by rw [← sim_may E M m hc]; exact h m, fun h m => by rw [sim_may E M m hc]; exact h m⟩
theorem sim_out (E : Emb f g φ κ) (M : SimS f φ κ s t) (hc : c < f.size) : g.out t (φ c) = (f.out s c).map φ := by
  unfold Fl.out
  rw [sim_let E M hc, sim_go E M hc]
  cases f.letTo s c with
  | none => rfl
  | some x =>
    show (if f.go s c = true then some (φ x) else none) = Option.map φ (if f.go s c = true then some x else none)
    cases f.go s c <;> rfl
theorem sim_into (E : Emb f g φ κ) (M : SimS f φ κ s t) (hc : c < f.size) : g.into t (φ c) = (f.into s c).map φ := by
  unfold Fl.into
  rw [sim_winner E M hc]
  cases q : f.winner s c with
  | none => rfl
  | some x =>
    show (if g.go t (φ x) = true then some (φ x) else none) = Option.map φ (if f.go s x = true then some x else none)
    rw [sim_go E M (winner_lt E.fo q)]
    cases f.go s x <;> rfl
theorem sim_on1 (E : Emb f g φ κ) (M : SimS f φ κ s t) (hc : c < f.size) : g.on1 t (φ c) = (f.on1 s c).map κ := by
  unfold Fl.on1
  rw [sim_into E M hc, sim_out E M hc, M.on c hc]
  cases q : f.into s c with
  | none =>
    cases f.out s c <;> rfl
  | some o =>
    have ho := out_lt E.fo (into_out.mp q)
    show (if g.at (φ c) = .fin then none else t.onAt (φ o)) = Option.map κ (if f.at c = .fin then none else s.onAt o)
    rw [M.on o ho.1]
    by_cases h : f.at c = .fin
    · rw [if_pos h, if_pos ((emb_fin E hc).mpr h)]; rfl
    · rw [if_neg h, if_neg fun z => h ((emb_fin E hc).mp z)]
theorem sim_fresh (E : Emb f g φ κ) (M : SimS f φ κ s t) (hc : c < f.size) : g.fresh t (φ c) = f.fresh s c := by
  have h1 := sim_on1 E M hc
  have h2 : g.on1 t (φ c) = none ↔ f.on1 s c = none := by rw [h1]; cases f.on1 s c <;> simp
  unfold Fl.fresh
  rw [E.at_ c hc]
  cases f.at c with
  | well a k w =>
    show decide (t.waitAt (φ c) = 0 ∧ g.on1 t (φ c) = none) = decide (s.waitAt c = 0 ∧ f.on1 s c = none)
    rw [M.wa c hc]
    exact decide_eq_decide.mpr (and_congr Iff.rfl h2)
  | _ => rfl
theorem sim_on2 (E : Emb f g φ κ) (M : SimS f φ κ s t) (hc : c < f.size) : g.on2 t (φ c) = (f.on2 s c).map κ := by
  unfold Fl.on2
  rw [sim_fresh E M hc, sim_on1 E M hc]
  by_cases h : f.fresh s c = true
  · rw [if_pos h, if_pos h, E.at_ c hc]
    unfold Fl.fresh at h
    cases q : f.at c with
    | well a k w => rfl
    | _ => rw [q] at h; cases h
  · rw [if_neg h, if_neg h]
theorem sim_wait1 (E : Emb f g φ κ) (M : SimS f φ κ s t) (hc : c < f.size) : g.wait1 t (φ c) = f.wait1 s c := by
  unfold Fl.wait1
  rw [sim_fresh E M hc, E.at_ c hc, rel_wmax, M.wa c hc]
theorem sim_way1 (E : Emb f g φ κ) (M : SimS f φ κ s t) (hc : c < f.size) : g.way1 t (φ c) = f.way1 s c := by
  unfold Fl.way1
  rw [sim_out E M hc, M.tu c hc, E.gl c hc, List.length_map]
  cases q : f.out s c with
  | none => rfl
  | some x =>
    have hx := out_goal q
    show (if (f.goals c).length = 2 then 1 - ((f.goals c).map φ).idxOf (φ x) else _) = _
    rw [idxOf_map_inj fun y hy e => E.inj y x (goals_lt E.fo hy) (goals_lt E.fo hx.1) e]
theorem sim_base1 (E : Emb f g φ κ) (M : SimS f φ κ s t) (hc : c < f.size) : g.base1 t (φ c) = f.base1 s c := by
  unfold Fl.base1
  rw [sim_into E M hc, E.co c hc, List.length_map, sim_base E M hc]
  cases q : f.into s c with
  | none => rfl
  | some x =>
    have hx := into_comer q
    show (((f.comers c).map φ).idxOf (φ x) + 1) % _ = _
    rw [idxOf_map_inj fun y hy e => E.inj y x (comers_lt E.fo hy) (comers_lt E.fo hx) e]
theorem sim_turn1 (E : Emb f g φ κ) (M : SimS f φ κ s t) (hc : c < f.size) : g.turn1 t (φ c) = f.turn1 s c := by
  unfold Fl.turn1
  rw [emb_isP E hc, sim_base1 E M hc, sim_way1 E M hc]
theorem sim_next (E : Emb f g φ κ) (M : SimS f φ κ s t) : SimS f φ κ (f.next s) (g.next t) where
  on := fun c hc => by rw [next_on (E.lt c hc), next_on hc, sim_on2 E M hc]
  tu := fun c hc => by rw [next_turn (E.lt c hc), next_turn hc, sim_turn1 E M hc]
  wa := fun c hc => by rw [next_wait (E.lt c hc), next_wait hc, sim_wait1 E M hc]
theorem sim_orb (E : Emb f g φ κ) (M : SimS f φ κ s t) : ∀ n, SimS f φ κ (f.orb s n) (g.orb t n)
  | 0 => M
  | n + 1 => by rw [orb_succ, orb_succ]; exact sim_next E (sim_orb E M n)
theorem sim_zero (f g : Fl) (φ κ : Nat → Nat) : SimS f φ κ f.zero g.zero where
  on := fun c _ => by rw [zero_on, zero_on]; rfl
  tu := fun c _ => by rw [zero_turn, zero_turn]
  wa := fun c _ => by rw [zero_wait, zero_wait]
/-! ### what came -/
theorem came_iff (ok : f.Ok) (S : f.SOk s) {c k : Nat} : (c, k) ∈ f.came s ↔ f.at c = .fin ∧ ∃ o, f.into s c = some o ∧ s.onAt o = some k := by
  unfold Fl.came
  rw [List.mem_map]
  constructor
  · rintro ⟨⟨c', o⟩, h, e⟩
    injection e with e1 e2
    subst e1
    obtain ⟨h1, h2⟩ := (mem_cameO ok).mp h
    obtain ⟨j, hj, _⟩ := out_kind ok S h2
    dsimp only at h1 h2 e2 hj
    rw [hj] at e2
    exact ⟨h1, o, into_out.mpr h2, by rw [hj]; exact congrArg some e2⟩
  · rintro ⟨h1, o, h2, h3⟩
    exact ⟨(c, o), (mem_cameO ok).mpr ⟨h1, into_out.mp h2⟩, by show (c, (s.onAt o).getD 0) = (c, k); rw [h3]; rfl⟩
theorem came_nd (f : Fl) (s : Sta) : ((f.came s).map (·.1)).Nodup := by
  unfold Fl.came
  rw [List.map_map]
  exact List.pairwise_map.mpr ((cameO_lt f s).imp fun h => Nat.ne_of_lt h)
theorem sim_came (E : Emb f g φ κ) (M : SimS f φ κ s t) (S : f.SOk s) (T : g.SOk t) {c k : Nat} (hc : c < f.size) (hk : k < 3) : (φ c, κ k) ∈ g.came t ↔ (c, k) ∈ f.came s := by
  rw [came_iff E.go T, came_iff E.fo S, emb_fin E hc, sim_into E M hc]
  refine and_congr Iff.rfl ?_
  constructor
  · rintro ⟨o, h1, h2⟩
    cases q : f.into s c with
    | none => rw [q] at h1; cases h1
    | some x =>
      rw [q] at h1
      cases h1
      have hx := (out_lt E.fo (into_out.mp q)).1
      rw [M.on x hx] at h2
      refine ⟨x, rfl, ?_⟩
      cases z : s.onAt x with
      | none => rw [z] at h2; cases h2
      | some j =>
        rw [z] at h2
        injection h2 with h2
        rw [E.kin j k (S.on x hx j z).1 hk h2]
  · rintro ⟨o, h1, h2⟩
    have hx := (out_lt E.fo (into_out.mp h1)).1
    exact ⟨φ o, by rw [h1]; rfl, by rw [M.on o hx, h2]; rfl⟩
/-- how often a row comes in n steps -/
def Fl.cnt (f : Fl) (s : Sta) (r : Nat × Nat) : Nat → Nat
  | 0 => 0
  | n + 1 => Fl.cnt f s r n + if r ∈ f.came (f.orb s n) then 1 else 0
theorem sim_cnt (E : Emb f g φ κ) (M : SimS f φ κ s t) (S : f.SOk s) (T : g.SOk t) {c k : Nat} (hc : c < f.size) (hk : k < 3) : ∀ n, g.cnt t (φ c, κ k) n = f.cnt s (c, k) n
  | 0 => rfl
  | n + 1 => by
    unfold Fl.cnt
    rw [sim_cnt E M S T hc hk n]
    have := sim_came E (sim_orb E M n) (orb_ok E.fo S n) (orb_ok E.go T n) hc hk
    by_cases h : (c, k) ∈ f.came (f.orb s n)
    · rw [if_pos h, if_pos (this.mpr h)]
    · rw [if_neg h, if_neg fun z => h (this.mp z)]
theorem lookup_addC (C : Cnt) (r q : Nat × Nat) : ((addC C r).lookup q).getD 0 = (C.lookup q).getD 0 + if q = r then 1 else 0 := by
  unfold addC
  by_cases h : (C.lookup r).isSome = true
  · rw [if_pos h]
    have key : ∀ (v : Nat) (L : Cnt), (L.map fun p => if p.1 = r then (p.1, v) else p).lookup q = if q = r then (L.lookup q).map fun _ => v else L.lookup q := fun v L => by
      induction L with
      | nil => simp
      | cons p L ih =>
        rw [List.map_cons]
        obtain ⟨a, b⟩ := p
        by_cases e : a = r
        · subst e
          rw [if_pos rfl, List.lookup_cons, List.lookup_cons, ih]
          by_cases z : q = a
          · subst z; simp
          · simp [z, show (q == a) = false from beq_eq_false_iff_ne.mpr z]
        · rw [if_neg e, List.lookup_cons, List.lookup_cons, ih]
          by_cases z : q = a
          · subst z; simp [e]
          · simp [z, show (q == a) = false from beq_eq_false_iff_ne.mpr z]
    rw [key]
    by_cases e : q = r
    · subst e
      rw [if_pos rfl, if_pos rfl]
      cases z : C.lookup q with
      | none => rw [z] at h; cases h
      | some n => rfl
    · rw [if_neg e, if_neg e]; rfl
  · rw [if_neg h]
    rw [List.lookup_append]
    by_cases e : q = r
    · subst e
      rw [if_pos rfl]
      cases z : C.lookup q with
      | none => simp
      | some n => rw [z] at h; exact absurd rfl h
    · rw [if_neg e]
      cases z : C.lookup q with
      | none => simp [List.lookup, beq_eq_false_iff_ne.mpr e]
      | some n => simp
theorem addC_pos {C : Cnt} (h : ∀ p ∈ C, 0 < p.2) (r : Nat × Nat) : ∀ p ∈ addC C r, 0 < p.2 := fun p hp => by
  unfold addC at hp
  split at hp
  · obtain ⟨q, hq, e⟩ := List.mem_map.mp hp
    split at e
    · rw [← e]; exact Nat.succ_pos _
    · rw [← e]; exact h q hq
  · rcases List.mem_append.mp hp with z | z
    · exact h p z
    · rw [List.mem_singleton.mp z]; exact Nat.one_pos
theorem lookup_addCs : ∀ (l : List (Nat × Nat)) (C : Cnt) (q : Nat × Nat), l.Nodup → ((addCs C l).lookup q).getD 0 = (C.lookup q).getD 0 + if q ∈ l then 1 else 0
  | [], C, q, _ => by simp [addCs]
  | r :: l, C, q, nd => by
    obtain ⟨n1, n2⟩ := List.nodup_cons.mp nd
    show ((addCs (addC C r) l).lookup q).getD 0 = _
    rw [lookup_addCs l _ q n2, lookup_addC]
    by_cases e : q = r
    · subst e
      simp [n1]
    · simp [e]
theorem addCs_pos : ∀ (l : List (Nat × Nat)) {C : Cnt}, (∀ p ∈ C, 0 < p.2) → ∀ p ∈ addCs C l, 0 < p.2
  | [], _, h => h
  | r :: l, _, h => addCs_pos l (addC_pos h r)
theorem runN_last (f : Fl) : ∀ (k : Nat) (z : Sta × Cnt), f.runN (k + 1) z = f.runC (f.runN k z)
  | 0, z => rfl
  | k + 1, z => runN_last f k (f.runC z)
theorem runN_cnt (ok : f.Ok) (S : f.SOk s) (r : Nat × Nat) : ∀ n, ((f.runN n (s, [])).2.lookup r).getD 0 = f.cnt s r n ∧ ∀ p ∈ (f.runN n (s, [])).2, 0 < p.2
  | 0 => ⟨rfl, fun p h => by cases h⟩
  | n + 1 => by
    obtain ⟨h1, h2⟩ := runN_cnt ok S r n
    have e : (f.runN n (s, [])).1 = f.orb s n := (runN_ok ok n (run_zero S)).2.1
    rw [runN_last]
    show ((addCs (f.runN n (s, [])).2 (f.came (f.runN n (s, [])).1)).lookup r).getD 0 = _ ∧ ∀ p ∈ addCs (f.runN n (s, [])).2 (f.came (f.runN n (s, [])).1), 0 < p.2
    rw [e, lookup_addCs _ _ _ (nd_of_map _ (came_nd f _)), h1]
    exact ⟨rfl, addCs_pos _ h2⟩
theorem mem_runN (ok : f.Ok) (S : f.SOk s) (n : Nat) {p : (Nat × Nat) × Nat} : p ∈ (f.runN n (s, [])).2 ↔ p.2 = f.cnt s p.1 n ∧ 0 < p.2 := by
  obtain ⟨h1, h2⟩ := runN_cnt ok S p.1 n
  have nd := (runN_ok ok n (run_zero S)).1.c.nd
  constructor
  · intro h
    rw [lookup_ndC nd h] at h1
    exact ⟨h1, h2 p h⟩
  · rintro ⟨e, hp⟩
    rw [← e] at h1
    cases q : (f.runN n (s, [])).2.lookup p.1 with
    | none => rw [q] at h1; rw [← h1] at hp; exact absurd hp (Nat.lt_irrefl 0)
    | some m =>
      rw [q] at h1
      have h1 : m = p.2 := h1
      subst h1
      have : ∀ {L : Cnt}, L.lookup p.1 = some p.2 → p ∈ L := fun {L} => by
        induction L with
        | nil => intro h; cases h
        | cons a L ih =>
          intro h
          rw [List.lookup_cons] at h
          by_cases z : p.1 = a.1
          · rw [z] at h
            simp at h
            exact List.mem_cons.mpr (.inl (Prod.ext z h.symm))
          · rw [show (p.1 == a.1) = false from beq_eq_false_iff_ne.mpr z] at h
            exact List.mem_cons_of_mem _ (ih h)
      exact this q
theorem cnt_in (ok : f.Ok) (S : f.SOk s) {r : Nat × Nat} : ∀ n, 0 < f.cnt s r n → r.1 < f.size ∧ r.2 < 3 ∧ f.at r.1 = .fin
  | 0, h => absurd h (Nat.lt_irrefl 0)
  | n + 1, h => by
    unfold Fl.cnt at h
    by_cases q : r ∈ f.came (f.orb s n)
    · exact came_ok ok (orb_ok ok S n) q
    · rw [if_neg q] at h; exact cnt_in ok S n h
/-! ### rows are sorted in one way -/
theorem ltD_kindn (k : Nat) (r s : List D) : ltD (.tup (.str (kindS k) :: r)) (.tup (.str (kindS k) :: s)) = ltD (.tup r) (.tup s) :=
  PySem.W.lex_pre [.inl 1, .inr [97 + k]] (keyToksAll (D.pys r)) (keyToksAll (D.pys s))
theorem anti_of {a b : D} (h1 : dataLe false D.py a b = true) (h2 : dataLe false D.py b a = true) : ltD a b = false ∧ ltD b a = false := by
  rw [dataLe_lt] at h1 h2
  exact ⟨by simpa using h2, by simpa using h1⟩
theorem encR_anti {p q : (Nat × Nat) × Nat} (h1 : dataLe false D.py (encR p) (encR q) = true) (h2 : dataLe false D.py (encR q) (encR p) = true) : p = q := by
  obtain ⟨n1, n2⟩ := anti_of h1 h2
  obtain ⟨⟨a, b⟩, n⟩ := p
  obtain ⟨⟨a', b'⟩, n'⟩ := q
  unfold encR at n1 n2
  dsimp only at n1 n2
  have ea : a = a' := by
    rcases Nat.lt_trichotomy a a' with z | z | z
    · rw [ltD_head (by omega)] at n1; cases n1
    · exact z
    · rw [ltD_head (by omega)] at n2; cases n2
  subst ea
  rw [ltD_next] at n1 n2
  have eb : b = b' := by
    rcases Nat.lt_trichotomy b b' with z | z | z
    · rw [ltD_kind z] at n1; cases n1
    · exact z
    · rw [ltD_kind z] at n2; cases n2
  subst eb
  rw [ltD_kindn] at n1 n2
  rcases Nat.lt_trichotomy n n' with z | z | z
  · rw [ltD_head (by omega)] at n1; cases n1
  · rw [z]
  · rw [ltD_head (by omega)] at n2; cases n2
theorem sort_encR {C E : Cnt} (p : C.Perm E) : sortD (C.map encR) = sortD (E.map encR) := by
  refine List.Perm.eq_of_pairwise (fun a b ha hb h1 h2 => ?_) (sortD_sorted _) (sortD_sorted _) (((sortD_perm _).trans (p.map _)).trans (sortD_perm _).symm)
  have ha := (sortD_perm _).mem_iff.mp ha
  have hb := (sortD_perm _).mem_iff.mp hb
  obtain ⟨x, _, rfl⟩ := List.mem_map.mp ha
  obtain ⟨y, _, rfl⟩ := List.mem_map.mp hb
  rw [encR_anti h1 h2]
end
end L2.Pv

set_option Elab.async false
set_option linter.all false
set_option maxRecDepth 100000
set_option maxHeartbeats 4000000
set_option autoImplicit false
/-! Orbits as tables. -/
namespace L2.Pv
open PySem PySem.Spec PyProof.Rows

/-- states that follow one another -/
def chain (f : Fl) : List Sta → Bool
  | a :: b :: r => decide (f.next a = b) && chain f (b :: r)
  | _ => true
theorem chain_orb {f : Fl} : ∀ {l : List Sta} {s : Sta} {r : List Sta}, l = s :: r → chain f l = true → ∀ i t, l[i]? = some t → f.orb s i = t
  | _, s, [], rfl, _, 0, t, h => by injection h
  | _, s, [], rfl, _, i + 1, t, h => by simp at h
  | _, s, b :: r, rfl, _, 0, t, h => by injection h
  | _, s, b :: r, rfl, hc, i + 1, t, h => by
    simp only [chain, Bool.and_eq_true, decide_eq_true_eq] at hc
    have ih := chain_orb (l := b :: r) rfl hc.2 i t h
    have e : f.orb s (i + 1) = f.orb (f.next s) i := rfl
    rw [e, hc.1]
    exact ih
/-- .. and the last one goes to one of them: the round -/
theorem first_table {f : Fl} {s : Sta} {r : List Sta} {i : Nat} {t u : Sta} (hc : chain f (s :: r) = true) (nd : (s :: r).Nodup) (hi : (s :: r)[i]? = some t) (hl : (s :: r)[r.length]? = some u) (hn : f.next u = t) : First (f.orb s) i (r.length + 1) := by
  have h := chain_orb (f := f) (l := s :: r) rfl hc
  have hlt := (List.getElem?_eq_some_iff.mp hi).1
  refine ⟨by simpa using hlt, ?_, fun m hm ⟨j, hj, e⟩ => ?_⟩
  · rw [h i t hi, orb_succ, h _ u hl, hn]
  · have hm' : m < (s :: r).length := by simpa using hm
    have hj' : j < (s :: r).length := by omega
    rw [h j _ (List.getElem?_eq_getElem hj'), h m _ (List.getElem?_eq_getElem hm')] at e
    have := (List.getElem_inj nd).mp e
    omega
end L2.Pv

set_option Elab.async false
set_option linter.all false
set_option maxRecDepth 100000
set_option maxHeartbeats 4000000
set_option autoImplicit false
/-! Rounds of a floor that lies within another. -/
namespace L2.Pv
open PySem PySem.Spec PyProof.Rows
open PySem.W (dataLe sortLe keyToks keyToksAll alike alikeAll sortLe_total)

theorem Emb.of {f g : Fl} {φ κ : Nat → Nat} (fo : f.Ok) (go : g.Ok) (lt : ∀ c, c < f.size → φ c < g.size) (inj : ∀ a b, a < f.size → b < f.size → φ a = φ b → a = b) (kin : ∀ a b, a < 3 → b < 3 → κ a = κ b → a = b)
    (at_ : ∀ c, c < f.size → g.at (φ c) = (f.at c).rel κ) (bs : ∀ c, c < f.size → ∀ s, g.beside (φ c) s = (f.beside c s).map φ) : Emb f g φ κ := by
  have gl : ∀ c, c < f.size → g.goals (φ c) = (f.goals c).map φ := fun c hc => by
    unfold Fl.goals
    rw [at_ c hc, show ((f.at c).rel κ).outs = (f.at c).outs from by cases f.at c <;> rfl]
    generalize (f.at c).outs = l
    induction l with
    | nil => rfl
    | cons s l ih =>
      rw [List.filterMap_cons, List.filterMap_cons, bs c hc s]
      cases f.beside c s with
      | none => exact ih
      | some x => rw [Option.map_some, List.map_cons, ih]
  refine ⟨fo, go, lt, inj, kin, at_, gl, fun c hc => ?_⟩
  have hl : ∀ x ∈ sides.filterMap (f.beside c), x < f.size := fun x hx => by
    obtain ⟨s, _, e⟩ := List.mem_filterMap.mp hx
    exact beside_lt fo e
  unfold Fl.comers
  have e : sides.filterMap (g.beside (φ c)) = (sides.filterMap (f.beside c)).map φ := by
    generalize sides = l
    induction l with
    | nil => rfl
    | cons s l ih =>
      rw [List.filterMap_cons, List.filterMap_cons, bs c hc s]
      cases f.beside c s with
      | none => exact ih
      | some x => rw [Option.map_some, List.map_cons, ih]
  rw [e, List.filter_map]
  congr 1
  refine List.filter_congr fun o ho => ?_
  have hlt := hl o ho
  show decide (φ c ∈ g.goals (φ o)) = decide (c ∈ f.goals o)
  rw [gl o hlt]
  refine decide_eq_decide.mpr ?_
  rw [List.mem_map]
  constructor
  · rintro ⟨x, hx, e⟩
    rw [← inj x c (goals_lt fo hx) hc e]; exact hx
  · intro h
    exact ⟨c, h, rfl⟩
section
variable {f g : Fl} {φ κ : Nat → Nat} {s t s' t' : Sta}
theorem sim_eq (E : Emb f g φ κ) (S : f.SOk s) (S' : f.SOk s') (M : SimS f φ κ s t) (M' : SimS f φ κ s' t) : s = s' := SOk.ext S S' fun c hc => by
  refine ⟨?_, (M.tu c hc).symm.trans (M'.tu c hc), (M.wa c hc).symm.trans (M'.wa c hc)⟩
  have e := (M.on c hc).symm.trans (M'.on c hc)
  cases q : s.onAt c with
  | none =>
    cases q' : s'.onAt c with
    | none => rfl
    | some k => rw [q, q'] at e; cases e
  | some j =>
    cases q' : s'.onAt c with
    | none => rw [q, q'] at e; cases e
    | some k =>
      rw [q, q'] at e
      injection e with e
      rw [E.kin j k (S.on c hc j q).1 (S'.on c hc k q').1 e]
theorem wall_zero (ok : g.Ok) (T : g.SOk t) {d : Nat} (hd : d < g.size) (h : g.at d = .wall) : t.onAt d = none ∧ t.turnAt d = 0 ∧ t.waitAt d = 0 := by
  refine ⟨?_, ?_, ?_⟩
  · cases q : t.onAt d with
    | none => rfl
    | some k => exact absurd h (T.on d hd k q).2.1
  · have := T.tn d hd
    unfold Fl.TurnOk Fl.many at this
    rw [h, wall_comers ok h] at this
    simp [Cell.isP] at this
    omega
  · have := T.wt d hd
    rw [h] at this
    exact Nat.le_zero.mp this
theorem sim_eq' (E : Emb f g φ κ) (T : g.SOk t) (T' : g.SOk t') (M : SimS f φ κ s t) (M' : SimS f φ κ s t') (hw : ∀ d, d < g.size → (∃ c, c < f.size ∧ d = φ c) ∨ g.at d = .wall) : t = t' := SOk.ext T T' fun d hd => by
  rcases hw d hd with ⟨c, hc, rfl⟩ | h
  · rw [M.on c hc, M'.on c hc, M.tu c hc, M'.tu c hc, M.wa c hc, M'.wa c hc]; exact ⟨rfl, rfl, rfl⟩
  · have a := wall_zero E.go T hd h
    have b := wall_zero E.go T' hd h
    exact ⟨a.1.trans b.1.symm, a.2.1.trans b.2.1.symm, a.2.2.trans b.2.2.symm⟩
theorem sim_rep (E : Emb f g φ κ) (S : f.SOk s) (M : SimS f φ κ s t) {i n : Nat} (h : g.orb t i = g.orb t n) : f.orb s i = f.orb s n :=
  sim_eq E (orb_ok E.fo S i) (orb_ok E.fo S n) (sim_orb E M i) (by rw [h]; exact sim_orb E M n)
theorem sim_first (E : Emb f g φ κ) (S : f.SOk s) (M : SimS f φ κ s t) {i n : Nat} (F : First (g.orb t) i n) : ∃ i' n', n' ≤ n ∧ First (f.orb s) i' n' := by
  obtain ⟨i', n', h, F'⟩ := First.of (st := f.orb s) (n := n) ⟨i, F.lt, sim_rep E S M F.eq⟩
  exact ⟨i', n', h, F'⟩
/-- what came to a floor, of what came to the one that lies in it, where all else is wall -/
theorem sim_kin (E : Emb f g φ κ) (M : SimS f φ κ s t) (S : f.SOk s) (T : g.SOk t) (mono : ∀ a b, a < b → b < f.size → φ a < φ b) (hw : ∀ d, d < g.size → (∃ c, c < f.size ∧ d = φ c) ∨ g.at d = .wall) : g.came t = (f.came s).map fun r => (φ r.1, κ r.2) := by
  have lt1 : ∀ (f : Fl) (s : Sta), (f.came s).Pairwise fun p q => p.1 < q.1 := fun f s => by
    unfold Fl.came
    exact List.pairwise_map.mpr (cameO_lt f s)
  have l2 : ((f.came s).map fun r => (φ r.1, κ r.2)).Pairwise fun p q => p.1 < q.1 :=
    List.pairwise_map.mpr ((List.Pairwise.and_mem.mp (lt1 f s)).imp fun {a b} h => mono a.1 b.1 h.2.2 (came_ok E.fo S h.2.1).1)
  have nd : ∀ {l : List (Nat × Nat)}, l.Pairwise (fun p q => p.1 < q.1) → l.Nodup := fun h => h.imp fun {a b} h e => by rw [e] at h; exact Nat.lt_irrefl _ h
  refine List.Perm.eq_of_pairwise (le := fun p q => p.1 < q.1) (fun a b _ _ h1 h2 => by omega) (lt1 g t) l2 ((List.perm_ext_iff_of_nodup (nd (lt1 g t)) (nd l2)).mpr fun r => ?_)
  rw [List.mem_map]
  constructor
  · intro h
    obtain ⟨d, k⟩ := r
    obtain ⟨h1, h2, h3⟩ := came_ok E.go T h
    rcases hw d h1 with ⟨c, hc, rfl⟩ | q
    · obtain ⟨_, o, ho, hk⟩ := (came_iff E.go T).mp h
      rw [sim_into E M hc] at ho
      cases z : f.into s c with
      | none => rw [z] at ho; cases ho
      | some x =>
        rw [z] at ho
        cases ho
        have hx := (out_lt E.fo (into_out.mp z)).1
        rw [M.on x hx] at hk
        cases y : s.onAt x with
        | none => rw [y] at hk; cases hk
        | some j =>
          rw [y] at hk
          injection hk with hk
          exact ⟨(c, j), (came_iff E.fo S).mpr ⟨(emb_fin E hc).mp h3, x, z, y⟩, by show (φ c, κ j) = (φ c, k); rw [hk]⟩
    · have h3 : g.at d = .fin := h3
      rw [q] at h3; cases h3
  · rintro ⟨q, hq, rfl⟩
    have h := came_ok E.fo S hq
    exact (sim_came E M S T h.1 h.2.1).mpr hq
/-! ### what is stuck, at rest -/
theorem stuck_iff {i n c : Nat} (F : First (f.orb s) i n) : c ∈ f.stuckL s n ↔ c < f.size ∧ s.onAt c ≠ none ∧ ∀ j, f.out (f.orb s j) c = none := by
  rw [mem_stuck]
  refine and_congr Iff.rfl (and_congr Iff.rfl ⟨fun h j => ?_, fun h j _ => h j⟩)
  obtain ⟨j', h1, e⟩ := orb_red F j
  rw [e]; exact h j' h1
theorem stuckL_lt (f : Fl) (s : Sta) (n : Nat) : (f.stuckL s n).Pairwise (· < ·) := List.pairwise_lt_range.filter _
theorem sorted_eq {l m : List Nat} (hl : l.Pairwise (· < ·)) (hm : m.Pairwise (· < ·)) (h : ∀ x, x ∈ l ↔ x ∈ m) : l = m := by
  have nd : ∀ {l : List Nat}, l.Pairwise (· < ·) → l.Nodup := fun h => h.imp fun h e => by omega
  exact List.Perm.eq_of_pairwise (fun a b _ _ (h1 : a < b) (h2 : b < a) => by omega) hl hm ((List.perm_ext_iff_of_nodup (nd hl) (nd hm)).mpr h)
theorem map_lt (mono : ∀ a b, a < b → b < f.size → φ a < φ b) {l : List Nat} (h : l.Pairwise (· < ·)) (hl : ∀ x ∈ l, x < f.size) : (l.map φ).Pairwise (· < ·) :=
  List.pairwise_map.mpr ((List.Pairwise.and_mem.mp h).imp fun {a b} q => mono a b q.2.2 (hl b q.2.1))
theorem sim_stuck (E : Emb f g φ κ) (M : SimS f φ κ s t) (mono : ∀ a b, a < b → b < f.size → φ a < φ b) {i n i' n' : Nat} (F : First (f.orb s) i n) (G : First (g.orb t) i' n') (P : List Nat) (hP : ∀ d, d ∈ P ↔ ∃ c, c < f.size ∧ d = φ c) :
    (f.stuckL s n).map φ = (g.stuckL t n').filter fun d => decide (d ∈ P) := by
  refine sorted_eq (map_lt mono (stuckL_lt f s n) fun x hx => ((stuck_iff F).mp hx).1) ((stuckL_lt g t n').filter _) fun d => ?_
  rw [List.mem_map, List.mem_filter, decide_eq_true_eq, hP]
  have key : ∀ c, c < f.size → (c ∈ f.stuckL s n ↔ φ c ∈ g.stuckL t n') := fun c hc => by
    rw [stuck_iff F, stuck_iff G]
    refine ⟨fun ⟨_, h2, h3⟩ => ⟨E.lt c hc, fun z => h2 ((sim_free M hc).mp z), fun j => ?_⟩, fun ⟨_, h2, h3⟩ => ⟨hc, fun z => h2 ((sim_free M hc).mpr z), fun j => ?_⟩⟩
    · rw [sim_out E (sim_orb E M j) hc, h3 j]; rfl
    · have := h3 j
      rw [sim_out E (sim_orb E M j) hc] at this
      cases q : f.out (f.orb s j) c with
      | none => rfl
      | some x => rw [q] at this; cases this
  constructor
  · rintro ⟨c, hc, rfl⟩
    have hl := ((stuck_iff F).mp hc).1
    exact ⟨(key c hl).mp hc, c, hl, rfl⟩
  · rintro ⟨h, c, hc, rfl⟩
    exact ⟨c, (key c hc).mpr h, rfl⟩
theorem rest_keeps (ok : f.Ok) (S : f.SOk s) (h : f.rest s = true) : ∀ k, f.rest (f.orb s k) = true
  | 0 => h
  | k + 1 => by rw [orb_succ]; exact (rest_next ok (orb_ok ok S k) (rest_keeps ok S h k)).1
theorem orb_round {i n : Nat} (F : First (f.orb s) i n) : ∀ (q j : Nat), i ≤ j → f.orb s (j + q * (n - i)) = f.orb s j
  | 0, j, _ => by rw [Nat.zero_mul, Nat.add_zero]
  | q + 1, j, hj => by
    have hlt := F.lt
    have e := orb_shift F.eq (j - i + q * (n - i))
    rw [show i + (j - i + q * (n - i)) = j + q * (n - i) from by omega, show n + (j - i + q * (n - i)) = j + (q + 1) * (n - i) from by rw [Nat.succ_mul]; omega] at e
    rw [← e]; exact orb_round F q j hj
theorem rest_last (ok : f.Ok) (S : f.SOk s) {i n : Nat} (F : First (f.orb s) i n) : f.rest (f.orb s (n - 1)) = true ↔ ∃ m, f.rest (f.orb s m) = true := by
  refine ⟨fun h => ⟨_, h⟩, fun ⟨m, h⟩ => ?_⟩
  have hlt := F.lt
  have e := orb_round F m (n - 1) (by omega)
  have hm : m ≤ n - 1 + m * (n - i) := Nat.le_trans (Nat.le_mul_of_pos_right m (by omega)) (Nat.le_add_left _ _)
  have := rest_keeps ok (orb_ok ok S m) h (n - 1 + m * (n - i) - m)
  rw [orb_orb, show m + (n - 1 + m * (n - i) - m) = n - 1 + m * (n - i) from by omega, e] at this
  exact this
theorem moves_iff (ok : f.Ok) : f.moves s = [] ↔ ∀ c, c < f.size → f.out s c = none := by
  rw [List.eq_nil_iff_forall_not_mem]
  constructor
  · intro h c _
    cases q : f.out s c with
    | none => rfl
    | some x => exact absurd ((mem_moves ok (c := c) (g := x)).mpr q) (h _)
  · intro h p hp
    have := (mem_moves ok (c := p.1) (g := p.2)).mp hp
    rw [h p.1 (out_lt ok this).1] at this; cases this
theorem rest_iff' (ok : f.Ok) : f.rest s = true ↔ ∀ c, c < f.size → f.out s c = none ∧ ((f.at c).isWell = true → s.onAt c ≠ none) := by
  rw [rest_iff, moves_iff ok]
  exact ⟨fun h c hc => ⟨h.1 c hc, h.2 c hc⟩, fun h => ⟨fun c hc => (h c hc).1, fun c hc => (h c hc).2⟩⟩
/-- at rest: for the cells that lie within -/
theorem sim_rest (E : Emb f g φ κ) (M : SimS f φ κ s t) : f.rest s = true ↔ ∀ c, c < f.size → g.out t (φ c) = none ∧ ((g.at (φ c)).isWell = true → t.onAt (φ c) ≠ none) := by
  rw [rest_iff' E.fo]
  refine forall_congr' fun c => forall_congr' fun hc => ?_
  rw [sim_out E M hc, E.at_ c hc, rel_isWell, Ne, Ne, sim_free M hc]
  refine and_congr ?_ Iff.rfl
  cases f.out s c <;> simp
theorem wall_rest (ok : g.Ok) {d : Nat} (h : g.at d = .wall) : g.out t d = none ∧ ((g.at d).isWell = true → t.onAt d ≠ none) := by
  refine ⟨?_, fun z => by rw [h] at z; cases z⟩
  cases q : g.out t d with
  | none => rfl
  | some x =>
    have := (out_goal q).1
    unfold Fl.goals at this
    rw [h] at this
    cases this
/-! ### rounds -/
theorem orb_canon {i n : Nat} (F : First (f.orb s) i n) {j : Nat} (h : i ≤ j) : f.orb s j = f.orb s (i + (j - i) % (n - i)) := by
  have hlt := F.lt
  have e := orb_round F ((j - i) / (n - i)) (i + (j - i) % (n - i)) (by omega)
  have hd := Nat.mod_add_div (j - i) (n - i)
  rw [Nat.mul_comm] at hd
  rw [← e]
  congr 1
  omega
/-- a round of the orbit is as many of the least ones -/
theorem round_dvd {i n a b : Nat} (F : First (f.orb s) i n) (hab : a < b) (e : f.orb s a = f.orb s b) : i ≤ a ∧ (n - i) ∣ (b - a) := by
  have hlt := F.lt
  have hm := fun x => Nat.mod_lt x (show 0 < n - i by omega)
  have ha : i ≤ a := by
    rcases Nat.lt_or_ge a i with h | h
    · exfalso
      rcases Nat.lt_or_ge b i with hb | hb
      · have := F.inj (by omega) (by omega) e; omega
      · rw [orb_canon F hb] at e
        have := hm (b - i)
        have := F.inj (by omega) (by omega) e
        omega
    · exact h
  refine ⟨ha, ?_⟩
  rw [orb_canon F ha, orb_canon F (show i ≤ b by omega)] at e
  have h1 := hm (a - i)
  have h2 := hm (b - i)
  have h3 := F.inj (by omega) (by omega) e
  have h4 : (a - i) % (n - i) = (b - i) % (n - i) := by omega
  have := Nat.dvd_of_mod_eq_zero (Nat.sub_mod_eq_zero_of_mod_eq h4.symm)
  rwa [show b - i - (a - i) = b - a from by omega] at this
theorem cnt_add (r : Nat × Nat) (a : Nat) : ∀ b, f.cnt s r (a + b) = f.cnt s r a + f.cnt (f.orb s a) r b
  | 0 => rfl
  | b + 1 => by
    have e : f.cnt s r (a + b + 1) = f.cnt s r (a + b) + if r ∈ f.came (f.orb s (a + b)) then 1 else 0 := rfl
    have e2 : f.cnt (f.orb s a) r (b + 1) = f.cnt (f.orb s a) r b + if r ∈ f.came (f.orb (f.orb s a) b) then 1 else 0 := rfl
    rw [show a + (b + 1) = a + b + 1 from rfl, e, e2, cnt_add r a b, orb_orb, Nat.add_assoc]
theorem cnt_turn {L : Nat} (r : Nat × Nat) (h : f.orb s L = s) : ∀ k, f.cnt (f.orb s k) r L = f.cnt s r L := fun k => by
  have h1 := cnt_add (f := f) (s := s) r k L
  have h2 := cnt_add (f := f) (s := s) r L k
  rw [h] at h2
  rw [Nat.add_comm k L] at h1
  omega
theorem cnt_mul {L : Nat} (r : Nat × Nat) (h : f.orb s L = s) : ∀ q, f.cnt s r (q * L) = q * f.cnt s r L
  | 0 => by rw [Nat.zero_mul, Nat.zero_mul]; rfl
  | q + 1 => by
    rw [Nat.succ_mul, Nat.succ_mul, Nat.add_comm (q * L) L, cnt_add, h, cnt_mul r h q, Nat.add_comm]
/-- .. how often a row comes in a round: in proportion -/
theorem round_cnt {i n a b : Nat} (F : First (f.orb s) i n) (hab : a < b) (e : f.orb s a = f.orb s b) (r : Nat × Nat) : f.cnt (f.orb s a) r (b - a) = (b - a) / (n - i) * f.cnt (f.orb s i) r (n - i) := by
  obtain ⟨ha, q, hq⟩ := round_dvd F hab e
  have hlt := F.lt
  have hb : f.orb (f.orb s i) (n - i) = f.orb s i := by
    rw [orb_orb, show i + (n - i) = n from by omega]; exact F.eq.symm
  have hc : f.cnt (f.orb s a) r (n - i) = f.cnt (f.orb s i) r (n - i) := by
    have := cnt_turn r hb (a - i)
    rw [orb_orb, show i + (a - i) = a from by omega] at this
    exact this
  have hd : f.orb (f.orb s a) (n - i) = f.orb s a := by
    have := orb_round F 1 a ha
    rw [Nat.one_mul] at this
    rw [orb_orb]; exact this
  have := cnt_mul r hd q
  rw [hq, Nat.mul_comm (n - i) q, Nat.mul_div_cancel _ (show 0 < n - i by omega), this, hc]
theorem encS_mul {L a q : Nat} (hq : 0 < q) (c k : Nat) : encS (q * L) ((c, k), q * a) = encS L ((c, k), a) := by
  unfold encS
  rw [Nat.gcd_mul_left, Nat.mul_div_mul_left _ _ hq, Nat.mul_div_mul_left _ _ hq]
/-- shares, of rows with keys in order, are in order -/
theorem encS_lt {L : Nat} {C l : Cnt} {f : Fl} (h : CntOk f C) (hl : l.Perm C) (he : keysC C = l.map fun p => encK p.1) : (l.map (encS L)).Pairwise fun a b => ltD a b = true := by
  have nd : (l.map (·.1)).Pairwise (· ≠ ·) := (hl.map _).nodup_iff.mpr h.nd
  have hs : (l.map fun p => encK p.1).Pairwise fun a b => dataLe false D.py a b = true := by rw [← he]; exact sortD_sorted _
  rw [List.pairwise_map] at hs nd ⊢
  refine (nd.and hs).imp fun {p q} ⟨h1, h2⟩ => ?_
  obtain ⟨⟨a, b⟩, n⟩ := p
  obtain ⟨⟨a', b'⟩, n'⟩ := q
  rw [dataLe_lt] at h2
  have h2 : ltD (encK (a', b')) (encK (a, b)) = false := by simpa using h2
  unfold encK at h2
  dsimp only at h2 h1
  unfold encS
  dsimp only
  rcases Nat.lt_trichotomy a a' with z | z | z
  · exact ltD_head (by omega) _ _
  · subst z
    rw [ltD_next] at h2 ⊢
    rcases Nat.lt_trichotomy b b' with y | y | y
    · exact ltD_kind y _ _
    · subst y; exact absurd rfl h1
    · rw [ltD_kind y] at h2; cases h2
  · rw [ltD_head (by omega)] at h2; cases h2
theorem encS_rows (L : Nat) (C : Cnt) (h : ∀ p ∈ C, p.1.2 < 3) : Rows (C.map (encS L)) where
  al := fun a ha b hb => by
    obtain ⟨p, _, rfl⟩ := List.mem_map.mp ha
    obtain ⟨q, _, rfl⟩ := List.mem_map.mp hb
    rfl
  tu := fun a ha => by
    obtain ⟨p, _, rfl⟩ := List.mem_map.mp ha
    exact ⟨_, _, rfl⟩
  sh := fun a ha => by
    obtain ⟨p, hp, rfl⟩ := List.mem_map.mp ha
    have := h p hp
    simp [encS, D.sh, kindS_ok (show p.1.2 < 1000 by omega)]
end
end L2.Pv

set_option Elab.async false
set_option linter.all false
set_option maxRecDepth 100000
set_option maxHeartbeats 4000000
set_option autoImplicit false
/-! Two small floors side by side, one with walls around. -/
namespace L2.Pv
open PySem PySem.Spec PyProof.Rows

def sml (a b c d e f : Cell) : Fl := ⟨2, 3, [a, b, c, d, e, f]⟩
def dbl (a b c d e f a' b' c' d' e' f' : Cell) : Fl := ⟨5, 3, [a, b, .wall, a', b', c, d, .wall, c', d', e, f, .wall, e', f']⟩
def ind (a b c d e f : Cell) : Fl := ⟨3, 4, [.wall, .wall, .wall, a, b, .wall, c, d, .wall, e, f, .wall]⟩
def ph1 (c : Nat) : Nat := c / 2 * 5 + c % 2
def ph2 (c : Nat) : Nat := c / 2 * 5 + c % 2 + 3
def ph3 (c : Nat) : Nat := (c / 2 + 1) * 3 + c % 2
section
variable {a b c d e f a' b' c' d' e' f' : Cell}
theorem six {n : Nat} (h : n < 6) : n = 0 ∨ n = 1 ∨ n = 2 ∨ n = 3 ∨ n = 4 ∨ n = 5 := by omega
theorem bs1 (n : Nat) (h : n < 6) (s : Side) : (dbl a b c d e f a' b' c' d' e' f').beside (ph1 n) s = ((sml a b c d e f).beside n s).map ph1 := by
  rcases six h with h | h | h | h | h | h <;> subst h <;> cases s <;> simp [Fl.beside, Fl.at, dbl, sml, ph1, Side.pick] <;> split <;> simp [ph1]
theorem bs2 (n : Nat) (h : n < 6) (s : Side) : (dbl a b c d e f a' b' c' d' e' f').beside (ph2 n) s = ((sml a' b' c' d' e' f').beside n s).map ph2 := by
  rcases six h with h | h | h | h | h | h <;> subst h <;> cases s <;> simp [Fl.beside, Fl.at, dbl, sml, ph2, Side.pick] <;> split <;> simp [ph2]
theorem bs3 (n : Nat) (h : n < 6) (s : Side) : (ind a b c d e f).beside (ph3 n) s = ((sml a b c d e f).beside n s).map ph3 := by
  rcases six h with h | h | h | h | h | h <;> subst h <;> cases s <;> simp [Fl.beside, Fl.at, ind, sml, ph3, Side.pick] <;> split <;> simp [ph3]
theorem sml_ok (h : ∀ x ∈ [a, b, c, d, e, f], x.Ok) : (sml a b c d e f).Ok := ⟨show 1 ≤ 2 by decide, show 2 ≤ 6 by decide, show 1 ≤ 3 by decide, show 3 ≤ 5 by decide, rfl, h⟩
theorem dbl_ok (h : ∀ x ∈ [a, b, c, d, e, f], x.Ok) (h' : ∀ x ∈ [a', b', c', d', e', f'], x.Ok) : (dbl a b c d e f a' b' c' d' e' f').Ok := ⟨show 1 ≤ 5 by decide, show 5 ≤ 6 by decide, show 1 ≤ 3 by decide, show 3 ≤ 5 by decide, rfl, fun x hx => by
  simp only [List.mem_cons, List.not_mem_nil, or_false, forall_eq_or_imp, forall_eq] at h h'
  simp only [dbl, List.mem_cons, List.not_mem_nil, or_false] at hx
  rcases hx with r | r | r | r | r | r | r | r | r | r | r | r | r | r | r <;> subst r <;> first | trivial | simp only [h] | simp only [h']⟩
theorem ind_ok (h : ∀ x ∈ [a, b, c, d, e, f], x.Ok) : (ind a b c d e f).Ok := ⟨show 1 ≤ 3 by decide, show 3 ≤ 6 by decide, show 1 ≤ 4 by decide, show 4 ≤ 5 by decide, rfl, fun x hx => by
  simp only [List.mem_cons, List.not_mem_nil, or_false, forall_eq_or_imp, forall_eq] at h
  simp only [ind, List.mem_cons, List.not_mem_nil, or_false] at hx
  rcases hx with r | r | r | r | r | r | r | r | r | r | r | r <;> subst r <;> first | trivial | simp only [h]⟩
theorem mono1 (m n : Nat) (h : m < n) (hn : n < 6) : ph1 m < ph1 n := by unfold ph1; omega
theorem mono2 (m n : Nat) (h : m < n) (hn : n < 6) : ph2 m < ph2 n := by unfold ph2; omega
theorem mono3 (m n : Nat) (h : m < n) (hn : n < 6) : ph3 m < ph3 n := by unfold ph3; omega
theorem emb1 (h : ∀ x ∈ [a, b, c, d, e, f], x.Ok) (h' : ∀ x ∈ [a', b', c', d', e', f'], x.Ok) : Emb (sml a b c d e f) (dbl a b c d e f a' b' c' d' e' f') ph1 id :=
  .of (sml_ok h) (dbl_ok h h') (fun n (hn : n < 6) => show ph1 n < 15 by unfold ph1; omega) (fun m n (hm : m < 6) (hn : n < 6) q => by unfold ph1 at q; omega) (fun m n _ _ q => q)
    (fun n (hn : n < 6) => by rw [rel_id]; rcases six hn with z | z | z | z | z | z <;> subst z <;> rfl) fun n hn s => bs1 n hn s
theorem emb2 (h : ∀ x ∈ [a, b, c, d, e, f], x.Ok) (h' : ∀ x ∈ [a', b', c', d', e', f'], x.Ok) : Emb (sml a' b' c' d' e' f') (dbl a b c d e f a' b' c' d' e' f') ph2 id :=
  .of (sml_ok h') (dbl_ok h h') (fun n (hn : n < 6) => show ph2 n < 15 by unfold ph2; omega) (fun m n (hm : m < 6) (hn : n < 6) q => by unfold ph2 at q; omega) (fun m n _ _ q => q)
    (fun n (hn : n < 6) => by rw [rel_id]; rcases six hn with z | z | z | z | z | z <;> subst z <;> rfl) fun n hn s => bs2 n hn s
theorem emb3 (h : ∀ x ∈ [a, b, c, d, e, f], x.Ok) : Emb (sml a b c d e f) (ind a b c d e f) ph3 id :=
  .of (sml_ok h) (ind_ok h) (fun n (hn : n < 6) => show ph3 n < 12 by unfold ph3; omega) (fun m n (hm : m < 6) (hn : n < 6) q => by unfold ph3 at q; omega) (fun m n _ _ q => q)
    (fun n (hn : n < 6) => by rw [rel_id]; rcases six hn with z | z | z | z | z | z <;> subst z <;> rfl) fun n hn s => bs3 n hn s
theorem part12 (n : Nat) (h : n < 15) : (∃ m, m < 6 ∧ n = ph1 m) ∨ (∃ m, m < 6 ∧ n = ph2 m) ∨ (dbl a b c d e f a' b' c' d' e' f').at n = .wall := by
  by_cases q : n % 5 = 2
  · have : n = 2 ∨ n = 7 ∨ n = 12 := by omega
    rcases this with z | z | z <;> subst z <;> exact .inr (.inr rfl)
  · by_cases r : n % 5 < 2
    · exact .inl ⟨n / 5 * 2 + n % 5, by omega, by unfold ph1; omega⟩
    · exact .inr (.inl ⟨n / 5 * 2 + (n % 5 - 3), by omega, by unfold ph2; omega⟩)
theorem part3 (n : Nat) (h : n < 12) : (∃ m, m < 6 ∧ n = ph3 m) ∨ (ind a b c d e f).at n = .wall := by
  by_cases q : n < 3 ∨ n % 3 = 2
  · have : n = 0 ∨ n = 1 ∨ n = 2 ∨ n = 5 ∨ n = 8 ∨ n = 11 := by omega
    rcases this with z | z | z | z | z | z <;> subst z <;> exact .inr rfl
  · exact .inl ⟨(n / 3 - 1) * 2 + n % 3, by omega, by unfold ph3; omega⟩
end
end L2.Pv

set_option Elab.async false
set_option linter.all false
set_option maxRecDepth 100000
set_option maxHeartbeats 4000000
set_option autoImplicit false
/-! Orbits worked out: states as numbers. -/
namespace L2.Pv
open PySem PySem.Spec PyProof.Rows

/-- a number is worked out ahead -/
def forceN {α : Type} (n : Nat) (k : Nat → α) : α := match n with
  | 0 => k 0
  | m + 1 => k (m + 1)
theorem forceN_eq {α : Type} (n : Nat) (k : Nat → α) : forceN n k = k n := by cases n <;> rfl
def numD : List Nat → Nat
  | [] => 0
  | d :: l => d + 16 * numD l
def digD : Nat → Nat → List Nat
  | 0, _ => []
  | n + 1, k => k % 16 :: digD n (k / 16)
theorem digD_num : ∀ l : List Nat, (∀ d ∈ l, d < 16) → digD l.length (numD l) = l
  | [], _ => rfl
  | d :: l, h => by
    have hd := h d List.mem_cons_self
    show (d + 16 * numD l) % 16 :: digD l.length ((d + 16 * numD l) / 16) = d :: l
    rw [show (d + 16 * numD l) % 16 = d from by omega, show (d + 16 * numD l) / 16 = numD l from by omega, digD_num l fun x hx => h x (List.mem_cons_of_mem _ hx)]
def digO (o : Option Nat) : Nat := match o with
  | none => 0
  | some k => k + 1
def oDig (n : Nat) : Option Nat := match n with
  | 0 => none
  | k + 1 => some k
theorem oDig_dig (o : Option Nat) : oDig (digO o) = o := by cases o <;> rfl
/-- a state as a number; of cells' number n -/
def Sta.code (s : Sta) : Nat := numD (s.on.map digO ++ (s.turns ++ s.waits))
def decS (n k : Nat) : Sta :=
  let l := digD (n + (n + n)) k
  ⟨(l.take n).map oDig, (l.drop n).take n, (l.drop n).drop n⟩
theorem dec_code {f : Fl} {s : Sta} (ok : f.Ok) (S : f.SOk s) : decS f.size s.code = s := by
  have hl : (s.on.map digO ++ (s.turns ++ s.waits)).length = f.size + (f.size + f.size) := by
    rw [List.length_append, List.length_append, List.length_map, S.l1, S.l2, S.l3]
  have hd : ∀ d ∈ s.on.map digO ++ (s.turns ++ s.waits), d < 16 := fun d h => by
    rcases List.mem_append.mp h with h | h
    · obtain ⟨o, ho, rfl⟩ := List.mem_map.mp h
      obtain ⟨c, hc, e⟩ := List.getElem_of_mem ho
      cases o with
      | none => decide
      | some k =>
        have hcl : c < f.size := by rw [← S.l1]; exact hc
        have := (S.on c hcl k (by unfold Sta.onAt; rw [List.getD_eq_getElem?_getD, List.getElem?_eq_getElem hc, e]; rfl)).1
        show k + 1 < 16; omega
    · rcases List.mem_append.mp h with h | h
      · obtain ⟨c, hc, e⟩ := List.getElem_of_mem h
        have hcl : c < f.size := by rw [← S.l2]; exact hc
        have h1 := S.tn c hcl
        have h2 : s.turnAt c = d := by unfold Sta.turnAt; rw [List.getD_eq_getElem?_getD, List.getElem?_eq_getElem hc, e]; rfl
        have h3 := comers_len f c
        unfold Fl.TurnOk Fl.many at h1
        rw [h2] at h1
        split at h1
        · have := h1.1; omega
        · omega
      · obtain ⟨c, hc, e⟩ := List.getElem_of_mem h
        have hcl : c < f.size := by rw [← S.l3]; exact hc
        have h1 := S.wt c hcl
        have h2 : s.waitAt c = d := by unfold Sta.waitAt; rw [List.getD_eq_getElem?_getD, List.getElem?_eq_getElem hc, e]; rfl
        rw [h2] at h1
        cases q : f.at c with
        | well a k w =>
          rw [q] at h1
          have h5 := Fl.at_ok ok c
          rw [q] at h5
          have : d ≤ w - 1 := h1
          have := h5.2.2
          omega
        | _ => rw [q] at h1; have : d ≤ 0 := h1; omega
  unfold decS Sta.code
  rw [← hl, digD_num _ hd]
  have l1 : (s.on.map digO).length = f.size := by rw [List.length_map, S.l1]
  dsimp only
  rw [show (s.on.map digO ++ (s.turns ++ s.waits)).take f.size = s.on.map digO from by rw [← l1, List.take_left], show (s.on.map digO ++ (s.turns ++ s.waits)).drop f.size = s.turns ++ s.waits from by rw [← l1, List.drop_left],
    show (s.turns ++ s.waits).take f.size = s.turns from by rw [← S.l2, List.take_left], show (s.turns ++ s.waits).drop f.size = s.waits from by rw [← S.l2, List.drop_left], List.map_map]
  have : s.on.map (oDig ∘ digO) = s.on := by
    conv => rhs; rw [← List.map_id s.on]
    exact List.map_congr_left fun o _ => oDig_dig o
  rw [this]
/-- the numbers of n + 1 states -/
def orbE (f : Fl) (sz : Nat) : Nat → Nat → List Nat
  | 0, k => [k]
  | n + 1, k => k :: forceN (f.next (decS sz k)).code fun k' => orbE f sz n k'
theorem orbE_get {f : Fl} (ok : f.Ok) : ∀ (n : Nat) {s : Sta}, f.SOk s → ∀ i, i ≤ n → (orbE f f.size n s.code)[i]? = some (f.orb s i).code
  | 0, s, _, i, h => by rw [show i = 0 from by omega]; rfl
  | n + 1, s, S, i, h => by
    unfold orbE
    rw [forceN_eq, dec_code ok S]
    cases i with
    | zero => rfl
    | succ i => rw [List.getElem?_cons_succ]; exact orbE_get ok n (next_ok ok S) i (by omega)
theorem orbE_len (f : Fl) (sz : Nat) : ∀ (n k : Nat), (orbE f sz n k).length = n + 1
  | 0, _ => rfl
  | n + 1, k => by unfold orbE; rw [forceN_eq, List.length_cons, orbE_len f sz n]
theorem code_inj {f : Fl} {s t : Sta} (ok : f.Ok) (S : f.SOk s) (T : f.SOk t) (h : s.code = t.code) : s = t := by
  rw [← dec_code ok S, ← dec_code ok T, h]
/-- the place of a number that comes again, of a list seen (the last one first), and how long the list is -/
def seenE (k : Nat) : List Nat → Nat → Option Nat
  | [], _ => none
  | x :: l, n => if x = k then some (n - 1) else seenE k l (n - 1)
/-- the round: walk till a number comes again -/
def roundE (f : Fl) (sz : Nat) : Nat → List Nat → Nat → Nat → Option (Nat × Nat)
  | 0, _, _, _ => none
  | m + 1, seen, n, k => match seenE k seen n with
    | some i => some (i, n)
    | none => forceN (f.next (decS sz k)).code fun k' => roundE f sz m (k :: seen) (n + 1) k'
theorem seenE_some {k i : Nat} : ∀ {l : List Nat} {n : Nat}, l.length = n → seenE k l n = some i → i < n ∧ l[n - 1 - i]? = some k
  | [], n, _, h => by cases h
  | x :: l, n, hn, h => by
    unfold seenE at h
    rw [List.length_cons] at hn
    split at h
    · rename_i e
      cases h
      exact ⟨by omega, by rw [show n - 1 - (n - 1) = 0 from by omega, e]; rfl⟩
    · obtain ⟨h1, h2⟩ := seenE_some (l := l) (n := n - 1) (by omega) h
      exact ⟨by omega, by rw [show n - 1 - i = (n - 1 - 1 - i) + 1 from by omega]; exact h2⟩
theorem seenE_none {k : Nat} : ∀ {l : List Nat} {n : Nat}, seenE k l n = none → k ∉ l
  | [], _, _ => by simp
  | x :: l, n, h => by
    unfold seenE at h
    split at h
    · cases h
    · rename_i e
      rw [List.mem_cons, not_or]
      exact ⟨fun z => e z.symm, seenE_none h⟩
theorem roundE_ok {f : Fl} {s : Sta} (ok : f.Ok) (S : f.SOk s) {i n : Nat} : ∀ (m : Nat) (seen : List Nat) (j : Nat), seen.length = j → (∀ a, a < j → seen[j - 1 - a]? = some (f.orb s a).code) → (∀ a, a < j → ¬ Rep (f.orb s) a) → roundE f f.size m seen j (f.orb s j).code = some (i, n) → First (f.orb s) i n
  | 0, _, _, _, _, _, h => by cases h
  | m + 1, seen, j, hl, hs, hr, h => by
    unfold roundE at h
    have So := fun a => orb_ok ok S a
    cases q : seenE (f.orb s j).code seen j with
    | some a =>
      rw [q] at h
      cases h
      obtain ⟨h1, h2⟩ := seenE_some hl q
      rw [hs _ h1] at h2
      injection h2 with h2
      exact ⟨h1, code_inj ok (So _) (So _) h2, hr⟩
    | none =>
      rw [q] at h
      dsimp only at h
      rw [forceN_eq, dec_code ok (So j), ← orb_succ] at h
      have hn := seenE_none q
      refine roundE_ok ok S m _ (j + 1) (by simp [hl]) (fun a ha => ?_) (fun a ha => ?_) h
      · rcases Nat.lt_or_ge a j with z | z
        · rw [show j + 1 - 1 - a = (j - 1 - a) + 1 from by omega, List.getElem?_cons_succ]; exact hs a z
        · rw [show a = j from by omega, show j + 1 - 1 - j = 0 from by omega]; rfl
      · rcases Nat.lt_or_ge a j with z | z
        · exact hr a z
        · rw [show a = j from by omega]
          rintro ⟨b, hb, e⟩
          have := hs b hb
          rw [e] at this
          exact hn (List.mem_of_getElem? this)
/-- the round of a floor, from the begin -/
def Fl.roundB (f : Fl) (m : Nat) : Option (Nat × Nat) := forceN f.zero.code fun k => roundE f f.size m [] 0 k
theorem roundB_ok {f : Fl} (ok : f.Ok) {m i n : Nat} (h : f.roundB m = some (i, n)) : First (f.orb f.zero) i n := by
  unfold Fl.roundB at h
  rw [forceN_eq] at h
  exact roundE_ok ok (zero_ok f) m [] 0 rfl (fun a ha => absurd ha (Nat.not_lt_zero _)) (fun a ha => absurd ha (Nat.not_lt_zero _)) h
/-- how often a row comes, step by step: as is told by form -/
def passE (f : Fl) (sz : Nat) (r : Nat × Nat) (form : Nat → Nat) : List Nat → Nat → Nat → Bool
  | [], _, _ => true
  | k :: l, j, c => forceN (c + if r ∈ f.came (decS sz k) then 1 else 0) fun c' => decide (c' = form (j + 1)) && passE f sz r form l (j + 1) c'
theorem passE_ok {f : Fl} {s : Sta} (ok : f.Ok) (S : f.SOk s) {r : Nat × Nat} {form : Nat → Nat} : ∀ (l : List Nat) (j : Nat), (∀ i k, l[i]? = some k → k = (f.orb s (j + i)).code) → passE f f.size r form l j (f.cnt s r j) = true → ∀ i, i < l.length → f.cnt s r (j + i + 1) = form (j + i + 1)
  | [], _, _, _, i, h => absurd h (Nat.not_lt_zero _)
  | k :: l, j, hl, hp, i, hi => by
    unfold passE at hp
    have hk := hl 0 k rfl
    rw [Nat.add_zero] at hk
    have e : f.cnt s r j + (if r ∈ f.came (decS f.size k) then 1 else 0) = f.cnt s r (j + 1) := by
      rw [hk, dec_code ok (orb_ok ok S j)]; rfl
    rw [forceN_eq, e, Bool.and_eq_true, decide_eq_true_eq] at hp
    cases i with
    | zero => exact hp.1
    | succ i =>
      have := passE_ok ok S l (j + 1) (fun a b h => by
        rw [hl (a + 1) b (by rw [List.getElem?_cons_succ]; exact h), show j + (a + 1) = j + 1 + a from by omega]) hp.2 i (by simpa using hi)
      rw [show j + (i + 1) + 1 = j + 1 + i + 1 from by omega]
      exact this
/-- .. of a floor from the begin, for m steps -/
def Fl.passB (f : Fl) (r : Nat × Nat) (form : Nat → Nat) (m : Nat) : Bool := forceN f.zero.code fun k => passE f f.size r form (orbE f f.size m k) 0 0 && decide (form 0 = 0)
theorem passB_ok {f : Fl} (ok : f.Ok) {r : Nat × Nat} {form : Nat → Nat} {m : Nat} (h : f.passB r form m = true) : ∀ i, i ≤ m → f.cnt f.zero r i = form i := fun i hi => by
  unfold Fl.passB at h
  rw [forceN_eq, Bool.and_eq_true, decide_eq_true_eq] at h
  cases i with
  | zero => exact h.2.symm
  | succ i =>
    have := passE_ok ok (zero_ok f) (orbE f f.size m f.zero.code) 0 (fun a b hb => by
      have hlt := (List.getElem?_eq_some_iff.mp hb).1
      rw [orbE_len] at hlt
      rw [orbE_get ok m (zero_ok f) a (by omega)] at hb
      injection hb with hb
      rw [Nat.zero_add, hb]) h.1 i (by rw [orbE_len]; omega)
    rw [Nat.zero_add] at this
    exact this
/-- how often a row comes in the round from i to n -/
def Fl.cntB (f : Fl) (r : Nat × Nat) (i n : Nat) : Nat := forceN f.zero.code fun k => (((orbE f f.size n k).drop i).take (n - i)).foldl (fun c k => forceN (c + if r ∈ f.came (decS f.size k) then 1 else 0) fun c => c) 0
theorem cntB_eq {f : Fl} (ok : f.Ok) (r : Nat × Nat) {i n : Nat} (h : i ≤ n) : f.cntB r i n = f.cnt (f.orb f.zero i) r (n - i) := by
  have key : ∀ (l : List Nat) (j c : Nat), (∀ a k, l[a]? = some k → k = (f.orb (f.orb f.zero i) (j + a)).code) → c = f.cnt (f.orb f.zero i) r j → l.foldl (fun c k => forceN (c + if r ∈ f.came (decS f.size k) then 1 else 0) fun c => c) c = f.cnt (f.orb f.zero i) r (j + l.length) := fun l => by
    induction l with
    | nil => intro j c _ hc; exact hc
    | cons k l ih =>
      intro j c hl hc
      have hk := hl 0 k rfl
      rw [Nat.add_zero] at hk
      rw [List.foldl_cons, forceN_eq, ih (j + 1) _ (fun a b hb => by rw [hl (a + 1) b (by rw [List.getElem?_cons_succ]; exact hb), show j + (a + 1) = j + 1 + a from by omega]) (by
        rw [hk, dec_code ok (orb_ok ok (orb_ok ok (zero_ok f) i) j), hc]; rfl), List.length_cons, show j + 1 + l.length = j + (l.length + 1) from by omega]
  unfold Fl.cntB
  rw [forceN_eq]
  have hlen : (((orbE f f.size n f.zero.code).drop i).take (n - i)).length = n - i := by
    rw [List.length_take, List.length_drop, orbE_len]; omega
  have := key (((orbE f f.size n f.zero.code).drop i).take (n - i)) 0 0 (fun a k hk => by
    have ha := (List.getElem?_eq_some_iff.mp hk).1
    rw [hlen] at ha
    rw [List.getElem?_take, if_pos ha, List.getElem?_drop, orbE_get ok n (zero_ok f) (i + a) (by omega)] at hk
    injection hk with hk
    rw [Nat.zero_add, orb_orb, hk]) rfl
  rw [this, hlen, Nat.zero_add]
end L2.Pv

set_option Elab.async false
set_option linter.all false
set_option maxRecDepth 100000
set_option maxHeartbeats 4000000
set_option autoImplicit false
/-! Orbits worked out: states as rows of literals. -/
namespace L2.Pv
open PySem PySem.Spec PyProof.Rows

def forceL {α : Type} : List Nat → (List Nat → α) → α
  | [], k => k []
  | x :: l, k => forceN x fun y => forceL l fun m => k (y :: m)
theorem forceL_eq {α : Type} : ∀ (l : List Nat) (k : List Nat → α), forceL l k = k l
  | [], _ => rfl
  | x :: l, k => by unfold forceL; rw [forceN_eq, forceL_eq l]
def forceO {α : Type} : List (Option Nat) → (List (Option Nat) → α) → α
  | [], k => k []
  | none :: l, k => forceO l fun m => k (none :: m)
  | some x :: l, k => forceN x fun y => forceO l fun m => k (some y :: m)
theorem forceO_eq {α : Type} : ∀ (l : List (Option Nat)) (k : List (Option Nat) → α), forceO l k = k l
  | [], _ => rfl
  | none :: l, k => by unfold forceO; rw [forceO_eq l]
  | some x :: l, k => by unfold forceO; rw [forceN_eq, forceO_eq l]
def forceS {α : Type} (s : Sta) (k : Sta → α) : α := forceO s.on fun a => forceL s.turns fun b => forceL s.waits fun c => k ⟨a, b, c⟩
theorem forceS_eq {α : Type} (s : Sta) (k : Sta → α) : forceS s k = k s := by
  unfold forceS
  rw [forceO_eq, forceL_eq, forceL_eq]
abbrev nth {α : Type} (l : List α) (n : Nat) (d : α) : α := l.getD n d
/-- where things flow: a floor as a table, a step where nothing is held up -/
structure TRow where
  gs : List Nat
  cs : List Nat
  cell : Cell
  deriving DecidableEq
def tbOf (f : Fl) : List TRow := (List.range f.size).map fun c => ⟨f.goals c, f.comers c, f.at c⟩
def row0 : TRow := ⟨[], [], .wall⟩
section
variable (T : List TRow) (on : List (Option Nat)) (tu wa : List Nat) (out src : List (Option Nat))
def pickF (t g h : Nat) : Nat :=
  if t % 2 = 0 then (match nth on g none, nth on h none with
    | some _, none => h
    | _, _ => g) else (match nth on h none, nth on g none with
    | some _, none => g
    | _, _ => h)
def wishF (c : Nat) : Option Nat := match nth on c none with
  | none => none
  | some _ => match (nth T c row0).gs with
    | [] => none
    | [g] => some g
    | g :: h :: _ => some (pickF on (nth tu c 0) g h)
def srcF (c : Nat) : Option Nat := (nth T c row0).cs.find? fun o => decide (nth out o none = some c)
def goesF (c : Nat) : Bool := match nth out c none with
  | none => true
  | some g => decide (nth src g none = some c) && (match nth on g none with
    | none => true
    | some _ => (nth out g none).isSome)
def on1F (c : Nat) : Option Nat := match nth src c none with
  | some o => if (nth T c row0).cell = .fin then none else nth on o none
  | none => match nth out c none with
    | none => nth on c none
    | some _ => none
def freshF (c : Nat) : Bool := match (nth T c row0).cell with
  | .well _ _ _ => decide (nth wa c 0 = 0) && (on1F T on out src c).isNone
  | _ => false
def on2F (c : Nat) : Option Nat := if freshF T on wa out src c = true then some (nth T c row0).cell.kind else on1F T on out src c
def wait1F (c : Nat) : Nat := if freshF T on wa out src c = true then (nth T c row0).cell.wmax else nth wa c 0 - 1
def base1F (c : Nat) : Nat := match nth src c none with
  | some o => ((nth T c row0).cs.idxOf o + 1) % (nth T c row0).cs.length
  | none => if (nth T c row0).cell.isP = true then nth tu c 0 / 2 else nth tu c 0
def way1F (c : Nat) : Nat := match nth out c none with
  | some g => if (nth T c row0).gs.length = 2 then 1 - (nth T c row0).gs.idxOf g else nth tu c 0 % 2
  | none => nth tu c 0 % 2
def turn1F (c : Nat) : Nat := if (nth T c row0).cell.isP = true then 2 * base1F T tu src c + way1F T tu out c else base1F T tu src c
end
/-- the step: k with who comes to each cell, and the state; bad where some thing is held up -/
def flowS {α : Type} (T : List TRow) (n : Nat) (s : Sta) (bad : α) (k : List (Option Nat) → Sta → α) : α :=
  forceO ((List.range n).map (wishF T s.on s.turns)) fun out => forceO ((List.range n).map (srcF T out)) fun src =>
    if (List.range n).all (goesF s.on out src) = true then
      forceS ⟨(List.range n).map (on2F T s.on s.waits out src), (List.range n).map (turn1F T s.turns out src), (List.range n).map (wait1F T s.on s.waits out src)⟩ (k src)
    else bad
section
variable {f : Fl} {s : Sta} {c g o : Nat}
theorem row_at (f : Fl) {c : Nat} (h : c < f.size) : nth (tbOf f) c row0 = ⟨f.goals c, f.comers c, f.at c⟩ := getD_map_range _ _ _ h
theorem pickF_eq (s : Sta) (t g h : Nat) : pickF s.on t g h = pick2 s t g h := by
  unfold pickF pick2
  show (if t % 2 = 0 then (match s.onAt g, s.onAt h with
    | some _, none => h
    | _, _ => g) else (match s.onAt h, s.onAt g with
    | some _, none => g
    | _, _ => h)) = _
  cases s.onAt g <;> cases s.onAt h <;> simp
theorem wishF_eq (h : c < f.size) : wishF (tbOf f) s.on s.turns c = f.wish s c := by
  unfold wishF Fl.wish
  rw [row_at f h]
  show (match s.onAt c with
    | none => none
    | some _ => match f.goals c with
      | [] => none
      | [g] => some g
      | g :: h :: _ => some (pickF s.on (s.turnAt c) g h)) = _
  cases s.onAt c with
  | none => rfl
  | some k =>
    match f.goals c with
    | [] => rfl
    | [g] => rfl
    | g :: h :: r => exact congrArg some (pickF_eq s _ _ _)
/-- what is told by a step that flows -/
theorem flow_ok (ok : f.Ok) (h : (List.range f.size).all (goesF s.on ((List.range f.size).map (f.wish s)) ((List.range f.size).map fun c => (f.comers c).find? fun o => decide (f.wish s o = some c))) = true) :
    (∀ c, c < f.size → f.out s c = f.wish s c) ∧ ∀ c, c < f.size → f.into s c = (f.comers c).find? fun o => decide (f.wish s o = some c) := by
  have hw : ∀ c, c < f.size → nth ((List.range f.size).map (f.wish s)) c none = f.wish s c := fun c h => getD_map_range _ _ _ h
  have hs : ∀ c, c < f.size → nth ((List.range f.size).map fun c => (f.comers c).find? fun o => decide (f.wish s o = some c)) c none = (f.comers c).find? fun o => decide (f.wish s o = some c) := fun c h => getD_map_range _ _ _ h
  have key : ∀ c g, f.wish s c = some g → ((f.comers g).find? fun o => decide (f.wish s o = some g)) = some c ∧ (s.onAt g = none ∨ ∃ g', f.wish s g = some g') := fun c g q => by
    have hc : c < f.size := by
      have := (wish_mem q).2
      rcases Nat.lt_or_ge c f.size with z | z
      · exact z
      · unfold Fl.wish at q
        have hat : f.at c = .wall := by
          unfold Fl.at
          rw [List.getD_eq_getElem?_getD, List.getElem?_eq_none (by unfold Fl.size at z; omega)]; rfl
        have hg : f.goals c = [] := by unfold Fl.goals; rw [hat]; rfl
        rw [hg] at q
        cases y : s.onAt c with
        | none => rw [y] at q; cases q
        | some k => rw [y] at q; cases q
    have hg := wish_lt ok q
    have := List.all_eq_true.mp h c (List.mem_range.mpr hc)
    unfold goesF at this
    rw [hw c hc, q] at this
    dsimp only at this
    rw [hs g hg, hw g hg, Bool.and_eq_true, decide_eq_true_eq] at this
    refine ⟨this.1, ?_⟩
    have h2 : (match s.onAt g with
      | none => true
      | some _ => (f.wish s g).isSome) = true := this.2
    cases z : s.onAt g with
    | none => exact .inl rfl
    | some k =>
      rw [z] at h2
      right
      cases y : f.wish s g with
      | none => rw [y] at h2; cases h2
      | some g' => exact ⟨g', rfl⟩
  have win : ∀ c g, f.wish s c = some g → f.winner s g = some c := fun c g q => by
    have k1 := (key c g q).1
    have hm : c ∈ f.comers g := List.mem_of_find?_eq_some k1
    unfold Fl.winner
    cases z : (rotN (f.comers g) (f.base s g)).find? fun o => decide (f.wish s o = some g) with
    | none =>
      have := List.find?_eq_none.mp z c (mem_rotN.mpr hm)
      simp [q] at this
    | some o =>
      have ho0 := List.find?_some z
      have ho := of_decide_eq_true ho0
      have := (key o g ho).1
      rw [k1] at this
      exact this.symm
  have lt : ∀ c, f.letTo s c = f.wish s c := fun c => by
    cases q : f.wish s c with
    | none =>
      unfold Fl.letTo
      rw [q]
    | some g => exact letTo_iff.mpr (win c g q)
  have go : ∀ c, f.wish s c ≠ none → f.go s c = true := fun c hc => go_max ok (fun c => f.wish s c ≠ none) (fun c hc => by
    cases q : f.wish s c with
    | none => exact absurd q hc
    | some g =>
      refine ⟨g, by rw [lt, q], ?_⟩
      rcases (key c g q).2 with z | ⟨g', z⟩
      · exact .inl z
      · exact .inr (by rw [z]; simp)) hc
  have out : ∀ c, f.out s c = f.wish s c := fun c => by
    cases q : f.wish s c with
    | none =>
      unfold Fl.out
      rw [lt, q]
    | some g => exact out_iff.mpr ⟨by rw [lt, q], go c (by rw [q]; simp)⟩
  refine ⟨fun c _ => out c, fun c hc => ?_⟩
  cases q : f.into s c with
  | none =>
    cases z : (f.comers c).find? fun o => decide (f.wish s o = some c) with
    | none => rfl
    | some o =>
      have ho0 := List.find?_some z
      have ho := of_decide_eq_true ho0
      have : f.into s c = some o := into_out.mpr (by rw [out, ho])
      rw [q] at this; cases this
  | some o =>
    have ho := into_out.mp q
    rw [out] at ho
    exact (key o c ho).1.symm
theorem flowS_eq {α : Type} (ok : f.Ok) (bad : α) (k : List (Option Nat) → Sta → α) :
    flowS (tbOf f) f.size s bad k = k ((List.range f.size).map (f.into s)) (f.next s) ∨ flowS (tbOf f) f.size s bad k = bad := by
  unfold flowS
  have e1 : (List.range f.size).map (wishF (tbOf f) s.on s.turns) = (List.range f.size).map (f.wish s) := List.map_congr_left fun c hc => wishF_eq (List.mem_range.mp hc)
  rw [forceO_eq, e1, forceO_eq]
  have hw : ∀ c, c < f.size → nth ((List.range f.size).map (f.wish s)) c none = f.wish s c := fun c h => getD_map_range _ _ _ h
  have e2 : (List.range f.size).map (srcF (tbOf f) ((List.range f.size).map (f.wish s))) = (List.range f.size).map fun c => (f.comers c).find? fun o => decide (f.wish s o = some c) := List.map_congr_left fun c hc => by
    unfold srcF
    rw [row_at f (List.mem_range.mp hc)]
    show (f.comers c).find? _ = _
    have hl := fun o (ho : o ∈ f.comers c) => comers_lt ok ho
    generalize f.comers c = l at hl
    induction l with
    | nil => rfl
    | cons o l ih =>
      rw [List.find?_cons, List.find?_cons, hw o (hl o List.mem_cons_self), ih fun x hx => hl x (List.mem_cons_of_mem _ hx)]
  rw [e2]
  by_cases q : (List.range f.size).all (goesF s.on ((List.range f.size).map (f.wish s)) ((List.range f.size).map fun c => (f.comers c).find? fun o => decide (f.wish s o = some c))) = true
  · left
    rw [if_pos q, forceS_eq]
    obtain ⟨ho, hi⟩ := flow_ok ok q
    have e3 : ((List.range f.size).map fun c => (f.comers c).find? fun o => decide (f.wish s o = some c)) = (List.range f.size).map (f.into s) := List.map_congr_left fun c hc => (hi c (List.mem_range.mp hc)).symm
    have e4 : (List.range f.size).map (f.wish s) = (List.range f.size).map (f.out s) := List.map_congr_left fun c hc => (ho c (List.mem_range.mp hc)).symm
    rw [e3, e4]
    have hI : ∀ c, c < f.size → nth ((List.range f.size).map (f.into s)) c none = f.into s c := fun c h => getD_map_range _ _ _ h
    have hO : ∀ c, c < f.size → nth ((List.range f.size).map (f.out s)) c none = f.out s c := fun c h => getD_map_range _ _ _ h
    have on1 : ∀ c, c < f.size → on1F (tbOf f) s.on ((List.range f.size).map (f.out s)) ((List.range f.size).map (f.into s)) c = f.on1 s c := fun c hc => by
      unfold on1F Fl.on1
      rw [hI c hc, hO c hc, row_at f hc]
      cases f.into s c with
      | some o => rfl
      | none =>
        show (match f.out s c with
          | none => s.onAt c
          | some _ => none) = if f.out s c = none then s.onAt c else none
        cases f.out s c <;> simp
    have fr : ∀ c, c < f.size → freshF (tbOf f) s.on s.waits ((List.range f.size).map (f.out s)) ((List.range f.size).map (f.into s)) c = f.fresh s c := fun c hc => by
      unfold freshF Fl.fresh
      rw [on1 c hc, row_at f hc]
      show (match f.at c with
        | .well _ _ _ => decide (s.waitAt c = 0) && (f.on1 s c).isNone
        | _ => false) = _
      cases f.at c with
      | well a b w =>
        show (decide (s.waitAt c = 0) && (f.on1 s c).isNone) = decide (s.waitAt c = 0 ∧ f.on1 s c = none)
        cases f.on1 s c <;> simp
      | _ => rfl
    have d1 : (List.range f.size).map (on2F (tbOf f) s.on s.waits ((List.range f.size).map (f.out s)) ((List.range f.size).map (f.into s))) = (List.range f.size).map (f.on2 s) := List.map_congr_left fun c hc => by
      have hc := List.mem_range.mp hc
      unfold on2F Fl.on2
      rw [fr c hc, on1 c hc, row_at f hc]
    have d3 : (List.range f.size).map (wait1F (tbOf f) s.on s.waits ((List.range f.size).map (f.out s)) ((List.range f.size).map (f.into s))) = (List.range f.size).map (f.wait1 s) := List.map_congr_left fun c hc => by
      have hc := List.mem_range.mp hc
      unfold wait1F Fl.wait1
      rw [fr c hc, row_at f hc]; rfl
    have d2 : (List.range f.size).map (turn1F (tbOf f) s.turns ((List.range f.size).map (f.out s)) ((List.range f.size).map (f.into s))) = (List.range f.size).map (f.turn1 s) := List.map_congr_left fun c hc => by
      have hc := List.mem_range.mp hc
      unfold turn1F Fl.turn1 base1F way1F Fl.base1 Fl.way1 Fl.base
      rw [hI c hc, hO c hc, row_at f hc]
      rfl
    rw [d1, d2, d3]; rfl
  · right
    rw [if_neg q]
/-- the step, in any case -/
def nextF {α : Type} (f : Fl) (T : List TRow) (n : Nat) (s : Sta) (k : Sta → α) : α := flowS T n s (forceS (f.next s) k) fun _ t => k t
theorem nextF_eq {α : Type} (ok : f.Ok) (k : Sta → α) : nextF f (tbOf f) f.size s k = k (f.next s) := by
  unfold nextF
  rcases flowS_eq ok (s := s) (forceS (f.next s) k) fun _ t => k t with h | h
  · exact h
  · rw [h, forceS_eq]
def walkF {α : Type} (f : Fl) (T : List TRow) (n : Nat) : Nat → Sta → (Sta → α) → α
  | 0, s, k => k s
  | m + 1, s, k => nextF f T n s fun t => walkF f T n m t k
theorem walkF_eq {α : Type} (ok : f.Ok) (k : Sta → α) : ∀ (m : Nat) (s : Sta), walkF f (tbOf f) f.size m s k = k (f.orb s m)
  | 0, s => rfl
  | m + 1, s => by
    unfold walkF
    rw [nextF_eq ok, walkF_eq ok k m]; rfl
/-- m states from s on are none of them t -/
def difF (f : Fl) (T : List TRow) (n : Nat) (t : Sta) : Nat → Sta → Bool
  | 0, _ => true
  | m + 1, s => !decide (s = t) && nextF f T n s fun s' => difF f T n t m s'
theorem difF_ok (ok : f.Ok) {t : Sta} : ∀ (m : Nat) {s : Sta}, difF f (tbOf f) f.size t m s = true → ∀ j, j < m → f.orb s j ≠ t
  | 0, _, _, j, hj => absurd hj (Nat.not_lt_zero _)
  | m + 1, s, h, j, hj => by
    unfold difF at h
    rw [nextF_eq ok, Bool.and_eq_true, Bool.not_eq_true', decide_eq_false_iff_not] at h
    cases j with
    | zero => exact h.1
    | succ j => exact difF_ok ok m h.2 j (by omega)
/-- no state comes again within m steps -/
theorem no_rep_last {m : Nat} (h : ∀ j, j < m → f.orb s j ≠ f.orb s m) : ∀ a, a ≤ m → ¬ Rep (f.orb s) a := fun a ha hr => by
  obtain ⟨i, n, hn, F⟩ := First.of hr
  have hlt := F.lt
  have hd : 1 ≤ n - i := by omega
  have e := orb_round F 1 (m - (n - i)) (by omega)
  rw [Nat.one_mul, show m - (n - i) + (n - i) = m from by omega] at e
  exact h (m - (n - i)) (by omega) e.symm
theorem first_of {i P : Nat} (hP : 0 < P) (e : f.orb s (i + P) = f.orb s i) (new : ∀ j, 0 < j → j < P → f.orb s (i + j) ≠ f.orb s i) (pre : i = 0 ∨ f.orb s (i - 1) ≠ f.orb s (i + P - 1)) : First (f.orb s) i (i + P) := by
  refine ⟨by omega, e.symm, fun m hm hr => ?_⟩
  obtain ⟨i0, n0, hn, F⟩ := First.of hr
  have hlt := F.lt
  obtain ⟨h1, q, hq⟩ := round_dvd F (show i < i + P by omega) e.symm
  rw [show i + P - i = P from by omega] at hq
  have hr := orb_round F 1 i h1
  rw [Nat.one_mul] at hr
  have hqp : 0 < q := by
    rcases Nat.eq_zero_or_pos q with z | z
    · rw [z] at hq; omega
    · exact z
  have hle : n0 - i0 ≤ P := by rw [hq]; exact Nat.le_mul_of_pos_right _ hqp
  rcases Nat.lt_or_ge (n0 - i0) P with z | z
  · exact new (n0 - i0) (by omega) z hr
  · have hPe : n0 - i0 = P := by omega
    rcases pre with y | y
    · omega
    · have hr2 := orb_round F 1 (i - 1) (by omega)
      rw [Nat.one_mul, hPe, show i - 1 + P = i + P - 1 from by omega] at hr2
      exact y hr2.symm
/-! ### counts of what comes -/
def updF (es : List Nat) (src : List (Option Nat)) (cs : List Nat) : List Nat := (es.zip cs).map fun p => match nth src p.1 none with
  | none => p.2
  | some _ => p.2 + 1
/-- m steps, none of them to t; counts of what comes to the ends es -/
def cntW (T : List TRow) (n : Nat) (es : List Nat) (t : Sta) : Nat → Sta → List Nat → (Sta → List Nat → Bool) → Bool
  | 0, s, cs, k => k s cs
  | m + 1, s, cs, k => flowS T n s false fun src s' => forceL (updF es src cs) fun cs' => !decide (s' = t) && cntW T n es t m s' cs' k
def Kind0 (s : Sta) : Prop := ∀ c k, s.onAt c = some k → k = 0
theorem kind0_next (ok : f.Ok) (hw : ∀ c, c < f.size → (f.at c).kind = 0) (h : Kind0 s) : Kind0 (f.next s) := fun c k hk => by
  rcases Nat.lt_or_ge c f.size with hc | hc
  · rw [next_on hc] at hk
    unfold Fl.on2 at hk
    split at hk
    · injection hk with hk; rw [← hk]; exact hw c hc
    · unfold Fl.on1 at hk
      split at hk
      · split at hk
        · cases hk
        · exact h _ _ hk
      · split at hk
        · exact h _ _ hk
        · cases hk
  · unfold Sta.onAt Fl.next at hk
    rw [List.getD_eq_getElem?_getD, List.getElem?_eq_none (by simpa using hc)] at hk
    cases hk
theorem kind0_orb (ok : f.Ok) (hw : ∀ c, c < f.size → (f.at c).kind = 0) (h : Kind0 s) : ∀ n, Kind0 (f.orb s n)
  | 0 => h
  | n + 1 => by rw [orb_succ]; exact kind0_next ok hw (kind0_orb ok hw h n)
theorem kind0_zero (f : Fl) : Kind0 f.zero := fun c k h => by rw [zero_on] at h; cases h
theorem came0 (ok : f.Ok) (S : f.SOk s) (h : Kind0 s) {e : Nat} (hf : f.at e = .fin) : (e, 0) ∈ f.came s ↔ (f.into s e).isSome = true := by
  rw [came_iff ok S]
  constructor
  · rintro ⟨_, o, ho, _⟩; rw [ho]; rfl
  · intro q
    cases z : f.into s e with
    | none => rw [z] at q; cases q
    | some o =>
      obtain ⟨k, hk, _⟩ := out_kind ok S (into_out.mp z)
      exact ⟨hf, o, rfl, by rw [hk, h o k hk]⟩
theorem cnt_kind (ok : f.Ok) (S : f.SOk s) (h : Kind0 s) (hw : ∀ c, c < f.size → (f.at c).kind = 0) {e k : Nat} (hk : k ≠ 0) : ∀ n, f.cnt s (e, k) n = 0
  | 0 => rfl
  | n + 1 => by
    unfold Fl.cnt
    rw [cnt_kind ok S h hw hk n, if_neg]
    intro q
    obtain ⟨_, o, _, ho⟩ := (came_iff ok (orb_ok ok S n)).mp q
    exact hk (kind0_orb ok hw h n o k ho)
theorem updF_eq (ok : f.Ok) (S : f.SOk s) (h : Kind0 s) {es : List Nat} (he : ∀ e ∈ es, e < f.size ∧ f.at e = .fin) (k : Nat → Nat) : updF es ((List.range f.size).map (f.into s)) (es.map k) = es.map fun e => k e + if (e, 0) ∈ f.came s then 1 else 0 := by
  unfold updF
  induction es with
  | nil => rfl
  | cons e es ih =>
    have h1 := he e List.mem_cons_self
    rw [List.map_cons, List.zip_cons_cons, List.map_cons, List.map_cons, ih fun x hx => he x (List.mem_cons_of_mem _ hx)]
    congr 1
    show (match nth ((List.range f.size).map (f.into s)) e none with
      | none => k e
      | some _ => k e + 1) = _
    rw [show nth ((List.range f.size).map (f.into s)) e none = f.into s e from getD_map_range _ _ _ h1.1]
    have := came0 ok S h h1.2
    cases z : f.into s e with
    | none =>
      rw [z] at this
      rw [if_neg (fun q => by simpa using this.mp q)]; rfl
    | some o =>
      rw [z] at this
      rw [if_pos (this.mpr rfl)]
theorem cntW_ok (ok : f.Ok) (S : f.SOk s) (h0 : Kind0 s) (hw : ∀ c, c < f.size → (f.at c).kind = 0) {es : List Nat} (he : ∀ e ∈ es, e < f.size ∧ f.at e = .fin) {t : Sta} {k : Sta → List Nat → Bool} : ∀ (m j : Nat), cntW (tbOf f) f.size es t m (f.orb s j) (es.map fun e => f.cnt s (e, 0) j) k = true →
    (∀ i, j < i → i ≤ j + m → f.orb s i ≠ t) ∧ k (f.orb s (j + m)) (es.map fun e => f.cnt s (e, 0) (j + m)) = true
  | 0, j, h => ⟨fun i h1 h2 => by omega, h⟩
  | m + 1, j, h => by
    unfold cntW at h
    rcases flowS_eq ok (s := f.orb s j) false (fun src s' => forceL (updF es src (es.map fun e => f.cnt s (e, 0) j)) fun cs' => !decide (s' = t) && cntW (tbOf f) f.size es t m s' cs' k) with q | q
    · rw [q, forceL_eq, updF_eq ok (orb_ok ok S j) (kind0_orb ok hw h0 j) he, Bool.and_eq_true, Bool.not_eq_true', decide_eq_false_iff_not, ← orb_succ] at h
      have ih := cntW_ok ok S h0 hw he m (j + 1) h.2
      rw [show j + (m + 1) = j + 1 + m from by omega]
      refine ⟨fun i h1 h2 => ?_, ih.2⟩
      rcases Nat.lt_or_ge (j + 1) i with z | z
      · exact ih.1 i z h2
      · rw [show i = j + 1 from by omega]; exact h.1
    · rw [q] at h; cases h
/-- the round, from i on, of length P: with so much at the ends es; its last state is not at rest -/
def cycB (f : Fl) (T : List TRow) (n : Nat) (es : List Nat) (i P : Nat) (want : List Nat) : Bool :=
  walkF f T n (i - 1) f.zero fun p => walkF f T n (i - (i - 1)) p fun s => cntW T n es s (P - 1) s (es.map fun _ => 0) fun q cs =>
    flowS T n q false fun src t => forceL (updF es src cs) fun cs' => decide (t = s) && decide (cs' = want) && (decide (i = 0) || !decide (p = q)) && !f.rest q
theorem cycB_ok (ok : f.Ok) (hw : ∀ c, c < f.size → (f.at c).kind = 0) {es : List Nat} (he : ∀ e ∈ es, e < f.size ∧ f.at e = .fin) {i P : Nat} {want : List Nat} (hP : 0 < P) (h : cycB f (tbOf f) f.size es i P want = true) :
    First (f.orb f.zero) i (i + P) ∧ (es.map fun e => f.cnt (f.orb f.zero i) (e, 0) P) = want ∧ f.rest (f.orb f.zero (i + P - 1)) = false := by
  unfold cycB at h
  rw [walkF_eq ok, walkF_eq ok, orb_orb, show i - 1 + (i - (i - 1)) = i from by omega] at h
  have S := orb_ok ok (zero_ok f) i
  have K := kind0_orb ok hw (kind0_zero f) i
  have hz : (es.map fun _ => 0) = es.map fun e => f.cnt (f.orb f.zero i) (e, 0) 0 := rfl
  rw [hz] at h
  obtain ⟨h1, h2⟩ := cntW_ok (s := f.orb f.zero i) ok S K hw he (P - 1) 0 h
  rw [Nat.zero_add] at h2
  rcases flowS_eq ok (s := f.orb (f.orb f.zero i) (P - 1)) false (fun src t => forceL (updF es src (es.map fun e => f.cnt (f.orb f.zero i) (e, 0) (P - 1))) fun cs' => decide (t = f.orb f.zero i) && decide (cs' = want) && (decide (i = 0) || !decide (f.orb f.zero (i - 1) = f.orb (f.orb f.zero i) (P - 1))) && !f.rest (f.orb (f.orb f.zero i) (P - 1))) with q | q
  · rw [q, forceL_eq, updF_eq ok (orb_ok ok S (P - 1)) (kind0_orb ok hw K (P - 1)) he, ← orb_succ, show P - 1 + 1 = P from by omega, orb_orb] at h2
    simp only [Bool.and_eq_true, Bool.or_eq_true, decide_eq_true_eq, Bool.not_eq_true', decide_eq_false_iff_not] at h2
    obtain ⟨⟨⟨a1, a2⟩, a3⟩, a4⟩ := h2
    rw [orb_orb, show i + (P - 1) = i + P - 1 from by omega] at a3 a4
    refine ⟨first_of hP a1 (fun j hj hjP => ?_) (by simpa using a3), ?_, a4⟩
    · have := h1 j hj (by omega)
      rwa [orb_orb] at this
    · rw [← a2]
      refine List.map_congr_left fun e _ => ?_
      have : f.cnt (f.orb f.zero i) (e, 0) (P - 1 + 1) = f.cnt (f.orb f.zero i) (e, 0) (P - 1) + if (e, 0) ∈ f.came (f.orb (f.orb f.zero i) (P - 1)) then 1 else 0 := rfl
      rw [show P - 1 + 1 = P from by omega] at this
      exact this
  · rw [q] at h2; cases h2
end
end L2.Pv

set_option Elab.async false
set_option linter.all false
set_option maxRecDepth 100000
set_option maxHeartbeats 4000000
set_option autoImplicit false
/-! Ways carried from one floor to another: what is come to, lost cells, rings. -/
namespace L2.Pv
open PySem PySem.Spec PyProof.Rows

/-! ### while's end, without a program -/
theorem iterW_run {σ : Type} {cond : σ → Bool} {step : σ → σ} {meas : σ → Nat} {I : σ → Prop} (hb : ∀ s, I s → cond s = true → I (step s) ∧ meas (step s) < meas s) :
    ∀ (n : Nat) (s : σ), I s → meas s < n → I (iterW cond step n s) ∧ cond (iterW cond step n s) = false
  | 0, s, _, h => absurd h (Nat.not_lt_zero _)
  | n + 1, s, hs, h => by
    unfold iterW
    cases hc : cond s with
    | false => exact ⟨hs, hc⟩
    | true =>
      obtain ⟨h1, h2⟩ := hb s hs hc
      exact iterW_run hb n (step s) h1 (by omega)
/-- a while along given states -/
theorem iterW_along {σ : Type} {cond : σ → Bool} {step : σ → σ} (S : Nat → σ) (m : Nat) (h1 : ∀ i, i < m → cond (S i) = true ∧ step (S i) = S (i + 1)) (h2 : cond (S m) = false) : ∀ (k n : Nat), k ≤ m → m < n + k → iterW cond step n (S k) = S m
  | k, 0, h, h' => by omega
  | k, n + 1, h, h' => by
    unfold iterW
    by_cases e : k = m
    · subst e; rw [h2]; rfl
    · obtain ⟨g1, g2⟩ := h1 k (by omega)
      rw [g1, if_pos rfl, g2]
      exact iterW_along S m h1 h2 (k + 1) n (by omega) (by omega)
theorem allFrom_ok {G : Nat → List Nat} {n c : Nat} (hG : ∀ a b, b ∈ G a → b < n) (hn : ∀ a, (G a).Nodup) (h30 : n ≤ 30) (hc : c < n) : ∃ l, ToList G c l ∧ allFrom G c = sortN l := by
  obtain ⟨i, q⟩ := iterW_run (meas := fun s => n + 1 - s.2) (I := BfsOk G n c) (fun s hs hb => ⟨bfs_step hG hn hs hb, bfs_meas hs hb⟩) 100000 ([c], 0) (bfs_zero hc) (by show n + 1 - 0 < 100000; omega)
  exact ⟨_, bfs_done i q, rfl⟩
theorem mem_allFrom {G : Nat → List Nat} {n c : Nat} (hG : ∀ a b, b ∈ G a → b < n) (hn : ∀ a, (G a).Nodup) (h30 : n ≤ 30) (hc : c < n) {x : Nat} : x ∈ allFrom G c ↔ To G c x := by
  obtain ⟨l, t, e⟩ := allFrom_ok hG hn h30 hc
  rw [e, mem_sortN, t.mem]
/-- goals carried by φ -/
structure Car (F G : Nat → List Nat) (n : Nat) (φ : Nat → Nat) : Prop where
  fl : ∀ a b, b ∈ F a → b < n
  fn : ∀ a, (F a).Nodup
  gl : ∀ a b, b ∈ G a → b < n
  gn : ∀ a, (G a).Nodup
  n30 : n ≤ 30
  lt : ∀ a, a < n → φ a < n
  inj : ∀ a b, a < n → b < n → φ a = φ b → a = b
  car : ∀ c, c < n → G (φ c) = (F c).map φ
section
variable {F G : Nat → List Nat} {n : Nat} {φ : Nat → Nat} (C : Car F G n φ)
include C
theorem car_to {c y : Nat} (hc : c < n) : To G (φ c) y ↔ ∃ x, To F c x ∧ y = φ x := by
  constructor
  · intro h
    induction h with
    | here => exact ⟨c, .here c, rfl⟩
    | on h1 h2 ih =>
      obtain ⟨x, hx, rfl⟩ := ih
      have hlt := To.lt C.fl hc hx
      rw [C.car x hlt] at h2
      obtain ⟨z, hz, rfl⟩ := List.mem_map.mp h2
      exact ⟨z, .on hx hz, rfl⟩
  · rintro ⟨x, hx, rfl⟩
    induction hx with
    | here => exact .here _
    | on h1 h2 ih => exact .on ih (by rw [C.car _ (To.lt C.fl hc h1)]; exact List.mem_map_of_mem h2)
theorem map_nodup {l : List Nat} (h : l.Nodup) (hl : ∀ x ∈ l, x < n) : (l.map φ).Nodup := by
  rw [List.nodup_iff_pairwise_ne, List.pairwise_map]
  refine h.imp_of_mem fun {a b} ha hb hne e => hne (C.inj a b (hl a ha) (hl b hb) e)
theorem car_allFrom {c : Nat} (hc : c < n) : allFrom G (φ c) = sortN ((allFrom F c).map φ) := by
  obtain ⟨l, t, e⟩ := allFrom_ok C.fl C.fn C.n30 hc
  obtain ⟨m, u, e'⟩ := allFrom_ok C.gl C.gn C.n30 (C.lt c hc)
  rw [e', e]
  have hlt : ∀ x ∈ l, x < n := fun x hx => To.lt C.fl hc ((t.mem x).mp hx)
  have p : (sortN l).Perm l := sortN_perm l
  refine sortN_same u.nd ?_ fun x => ?_
  · exact map_nodup C (p.nodup_iff.mpr t.nd) fun x hx => hlt x (p.mem_iff.mp hx)
  · rw [u.mem, car_to C hc]
    constructor
    · rintro ⟨y, hy, rfl⟩
      exact List.mem_map_of_mem (p.mem_iff.mpr ((t.mem y).mpr hy))
    · intro h
      obtain ⟨y, hy, rfl⟩ := List.mem_map.mp h
      exact ⟨y, (t.mem y).mp (p.mem_iff.mp hy), rfl⟩
end
/-! ### lost cells -/
def Fl.isLost (f : Fl) (c : Nat) : Bool := !decide (f.at c = .wall) && decide ((allFrom f.goals c).filter (fun x => decide (f.at x = .fin)) = [])
theorem lost_filter (f : Fl) : f.lost = (List.range f.size).filter f.isLost := by
  have key : ∀ (l m : List Nat), l.foldl f.lostStep m = m ++ l.filter f.isLost := fun l => by
    induction l with
    | nil => intro m; simp
    | cons c l ih =>
      intro m
      rw [List.foldl_cons, ih]
      unfold Fl.lostStep
      by_cases q : f.isLost c = true
      · have q' := q
        unfold Fl.isLost at q
        simp at q
        rw [if_pos (by simpa using q), List.filter_cons_of_pos q']
        simp
      · have q' := q
        unfold Fl.isLost at q
        rw [if_neg (fun z => q (by simpa using z)), List.filter_cons_of_neg q']
  have := key (List.range f.size) []
  rw [List.nil_append] at this
  exact this
theorem lost_nd (f : Fl) : f.lost.Nodup := by rw [lost_filter]; exact List.nodup_range.filter _
theorem lost_sorted (f : Fl) : f.lost.Pairwise (· ≤ ·) := by rw [lost_filter]; exact List.pairwise_lt_range.filter _ |>.imp Nat.le_of_lt
theorem mem_lost {f : Fl} (ok : f.Ok) {c : Nat} : c ∈ f.lost ↔ c < f.size ∧ f.at c ≠ .wall ∧ ∀ x, To f.goals c x → f.at x ≠ .fin := by
  rw [lost_filter, List.mem_filter, List.mem_range]
  refine and_congr_right fun hc => ?_
  unfold Fl.isLost
  simp only [Bool.and_eq_true, Bool.not_eq_true', decide_eq_false_iff_not, decide_eq_true_eq, List.filter_eq_nil_iff]
  refine and_congr_right fun _ => ⟨fun h x hx => h x ((mem_allFrom (fun _ _ => goals_lt ok) (goals_nd ok) (Fl.size_le ok) hc).mpr hx), fun h x hx => h x ((mem_allFrom (fun _ _ => goals_lt ok) (goals_nd ok) (Fl.size_le ok) hc).mp hx)⟩
/-! ### rings -/
structure Cyc (G : Nat → List Nat) (n : Nat) (p : List Nat) : Prop where
  nd : p.Nodup
  lt : ∀ x ∈ p, x < n
  pos : 0 < p.length
  go : ∀ i, G (pc p i) = [pc p (i + 1)]
theorem pc_at {p : List Nat} {i : Nat} (h : i < p.length) : pc p i = p[i] := by
  unfold pc
  rw [Nat.mod_eq_of_lt h, List.getD_eq_getElem?_getD, List.getElem?_eq_getElem h]; rfl
theorem pc_take {p : List Nat} {i m : Nat} (h : i < m) (hm : m ≤ p.length) : pc (p.take m) i = pc p i := by
  rw [pc_at (by rw [List.length_take]; omega), pc_at (by omega), List.getElem_take]
theorem last_pc {p : List Nat} (h : 0 < p.length) : lastN p = pc p (p.length - 1) := by
  unfold lastN pc
  rw [Nat.mod_eq_of_lt (by omega)]
theorem pc_inj {p : List Nat} (nd : p.Nodup) {i j : Nat} (hi : i < p.length) (hj : j < p.length) (h : pc p i = pc p j) : i = j := by
  rw [pc_at hi, pc_at hj] at h
  exact (List.getElem_inj nd).mp h
theorem take_succ_pc {p : List Nat} {i : Nat} (h : i < p.length) : p.take (i + 1) = p.take i ++ [pc p i] := by
  rw [List.take_succ, List.getElem?_eq_getElem h, pc_at h]; rfl
theorem mem_take_pc {p : List Nat} {m x : Nat} (hm : m ≤ p.length) : x ∈ p.take m ↔ ∃ i, i < m ∧ pc p i = x := by
  constructor
  · intro h
    obtain ⟨i, hi, e⟩ := List.getElem_of_mem h
    rw [List.length_take] at hi
    refine ⟨i, by omega, ?_⟩
    rw [pc_at (by omega), ← e, List.getElem_take]
  · rintro ⟨i, hi, rfl⟩
    rw [pc_at (by omega)]
    exact List.mem_take_iff_getElem.mpr ⟨i, by omega, rfl⟩
theorem cyc_lt {G : Nat → List Nat} {n : Nat} {p : List Nat} (h : Cyc G n p) (i : Nat) : pc p i < n := h.lt _ (getD_mem (Nat.mod_lt _ h.pos))
/-- a ring is gone through -/
theorem ringPath_cyc {G : Nat → List Nat} {n : Nat} {p : List Nat} (h : Cyc G n p) (hn : n ≤ 30) : ringPath G (pc p 0) = p := by
  have hl := nodup_len h.nd h.lt
  have e0 : [pc p 0] = p.take (0 + 1) := by rw [take_succ_pc h.pos]; simp
  have hlast : ∀ i, i < p.length → lastN (p.take (i + 1)) = pc p i := fun i hi => by
    have e : (p.take (i + 1)).length = i + 1 := by rw [List.length_take]; omega
    rw [last_pc (by omega), e, Nat.add_sub_cancel, pc_take (by omega) (by omega)]
  unfold ringPath
  rw [e0]
  have := iterW_along (cond := ringCond G) (step := ringStep G) (fun i => p.take (i + 1)) (p.length - 1) (fun i hi => ?_) ?_ 0 100000 (by omega) (by omega)
  · rw [this]
    show p.take (p.length - 1 + 1) = p
    rw [Nat.sub_add_cancel h.pos, List.take_length]
  · have e := hlast i (by omega)
    constructor
    · unfold ringCond
      simp only [e, h.go i]
      simp
      intro hm
      obtain ⟨j, hj, q⟩ := (mem_take_pc (by omega)).mp hm
      have := pc_inj h.nd (by omega) (by omega) q
      omega
    · unfold ringStep
      simp only [e, h.go i]
      rw [take_succ_pc (show i + 1 < p.length by omega)]
      rfl
  · show ringCond G (p.take (p.length - 1 + 1)) = false
    unfold ringCond
    rw [hlast _ (by have := h.pos; omega), h.go]
    have hpos := h.pos
    have hm : pc p (p.length - 1 + 1) ∈ p.take (p.length - 1 + 1) := by
      refine (mem_take_pc (by omega)).mpr ⟨0, by omega, ?_⟩
      rw [Nat.sub_add_cancel hpos, ← pc_mod p p.length, Nat.mod_self]
    simp [hm]
theorem cyc_rot {G : Nat → List Nat} {n : Nat} {p : List Nat} (h : Cyc G n p) {k : Nat} (hk : k < p.length) : Cyc G n (rotN p k) ∧ pc (rotN p k) 0 = pc p k ∧ (rotN p k).Perm p := by
  have pm : (rotN p k).Perm p := by
    unfold rotN
    exact List.perm_append_comm.trans (by rw [List.take_append_drop])
  have hl : (rotN p k).length = p.length := pm.length_eq
  have hp : ∀ i, i < p.length → pc (rotN p k) i = pc p (k + i) := fun i hi => by
    rw [pc_at (by omega)]
    unfold rotN
    by_cases q : i < p.length - k
    · rw [List.getElem_append_left (by rw [List.length_drop]; omega), List.getElem_drop, pc_at (by omega)]
    · rw [List.getElem_append_right (by rw [List.length_drop]; omega), List.getElem_take, ← pc_mod p (k + i), pc_mod, ← pc_mod p (k + i)]
      have e : (k + i) % p.length = i - (p.length - k) := by
        rw [Nat.mod_eq_sub_mod (by omega), Nat.mod_eq_of_lt (by omega)]; omega
      rw [e, pc_at (by omega)]
      congr 1
      rw [List.length_drop]
  have hp' : ∀ i, pc (rotN p k) i = pc p (k + i) := fun i => by
    rw [← pc_mod, hl, hp _ (Nat.mod_lt _ h.pos), ← pc_mod p (k + i), ← pc_mod p (k + i % p.length), Nat.add_mod_mod]
  exact ⟨⟨pm.nodup_iff.mpr h.nd, fun x hx => h.lt x (pm.mem_iff.mp hx), by rw [hl]; exact h.pos, fun i => by rw [hp', hp', h.go]; rfl⟩, by rw [hp' 0]; rfl, pm⟩
theorem ringInv {G : Nat → List Nat} {n c : Nat} (hG : ∀ a b, b ∈ G a → b < n) (hn : n ≤ 30) {p : List Nat} (hp : RingOk n p ∧ pc p 0 = c ∧ ∀ i, i + 1 < p.length → G (pc p i) = [pc p (i + 1)]) (hb : ringCond G p = true) :
    (RingOk n (ringStep G p) ∧ pc (ringStep G p) 0 = c ∧ ∀ i, i + 1 < (ringStep G p).length → G (pc (ringStep G p) i) = [pc (ringStep G p) (i + 1)]) ∧ 31 - (ringStep G p).length < 31 - p.length := by
  obtain ⟨hr, h0, hch⟩ := hp
  have hpos := List.length_pos_iff.mpr hr.ne
  have hn' := ring_step hG hr hb
  have hl := nodup_len hn'.nd hn'.lt
  have hl2 : (ringStep G p).length = p.length + 1 := by unfold ringStep; simp
  have ht : ∀ i, i < p.length → pc (ringStep G p) i = pc p i := fun i hi => by
    rw [pc_at (by omega), pc_at hi]
    unfold ringStep
    rw [List.getElem_append_left hi]
  refine ⟨⟨hn', by rw [ht 0 hpos]; exact h0, fun i hi => ?_⟩, by omega⟩
  rw [hl2] at hi
  by_cases q : i + 1 < p.length
  · rw [ht i (by omega), ht (i + 1) q]; exact hch i q
  · have e : i = p.length - 1 := by omega
    rw [ht i (by omega), e, ← last_pc hpos, pc_at (by omega)]
    have h1 := of_decide_eq_true (Bool.and_eq_true_iff.mp hb).1
    obtain ⟨x, hx⟩ := List.length_eq_one_iff.mp h1
    unfold ringStep
    rw [List.getElem_append_right (by omega)]
    simp [hx]
/-- whatever closes is a ring -/
theorem closing_cyc {G : Nat → List Nat} {n c : Nat} (hG : ∀ a b, b ∈ G a → b < n) (hn : n ≤ 30) (hc : c < n) (h : G (lastN (ringPath G c)) = [c]) : Cyc G n (ringPath G c) ∧ pc (ringPath G c) 0 = c := by
  have inv : (RingOk n (ringPath G c) ∧ pc (ringPath G c) 0 = c ∧ ∀ i, i + 1 < (ringPath G c).length → G (pc (ringPath G c) i) = [pc (ringPath G c) (i + 1)]) ∧ ringCond G (ringPath G c) = false := by
    unfold ringPath
    refine iterW_run (cond := ringCond G) (step := ringStep G) (meas := fun p => 31 - p.length) (I := fun p => RingOk n p ∧ pc p 0 = c ∧ ∀ i, i + 1 < p.length → G (pc p i) = [pc p (i + 1)]) (fun p hp hb => ?_) 100000 [c] ?_ (by simp)
    · exact ringInv hG hn hp hb
    · exact ⟨⟨by simp, fun x hx => by rw [List.mem_singleton.mp hx]; exact hc, by simp⟩, by unfold pc; simp, fun i hi => by simp at hi⟩
  · obtain ⟨⟨hr, h0, hch⟩, _⟩ := inv
    have hpos := List.length_pos_iff.mpr hr.ne
    refine ⟨⟨hr.nd, hr.lt, hpos, fun i => ?_⟩, h0⟩
    show G (pc (ringPath G c) i) = [pc (ringPath G c) (i + 1)]
    have hm := Nat.mod_lt i hpos
    rw [← pc_mod, ← pc_mod _ (i + 1)]
    by_cases q : i % (ringPath G c).length + 1 < (ringPath G c).length
    · rw [hch _ q]
      congr 2
      rw [Nat.add_mod, Nat.mod_eq_of_lt (b := (ringPath G c).length) (a := 1) (by omega), Nat.mod_eq_of_lt q]
    · have e : i % (ringPath G c).length = (ringPath G c).length - 1 := by
        omega
      rw [e, ← last_pc hpos, h]
      congr 1
      have : (i + 1) % (ringPath G c).length = 0 := by
        rw [Nat.add_mod, e]
        have : ((ringPath G c).length - 1 + 1 % (ringPath G c).length) % (ringPath G c).length = 0 := by
          rw [Nat.add_mod_mod, Nat.sub_add_cancel hpos, Nat.mod_self]
        exact this
      rw [this]
      exact h0.symm
theorem minN_ok {l : List Nat} (h : l ≠ []) : minN l ∈ l ∧ ∀ x ∈ l, minN l ≤ x := by
  obtain ⟨h1, h2⟩ := minI_ok (castL l) (castL_ne h)
  obtain ⟨m, hm, e⟩ := List.mem_map.mp h1
  have e' : minN l = m := by unfold minN; rw [← e]; simp
  rw [e']
  refine ⟨hm, fun x hx => ?_⟩
  have := h2 (x : Int) (List.mem_map_of_mem hx)
  rw [← e] at this
  exact Int.ofNat_le.mp this
theorem minN_mem {l m : List Nat} (h : l ≠ []) (p : l.Perm m) : minN l = minN m := by
  have hm : m ≠ [] := fun e => h (List.perm_nil.mp (e ▸ p))
  obtain ⟨a1, a2⟩ := minN_ok h
  obtain ⟨b1, b2⟩ := minN_ok hm
  exact Nat.le_antisymm (a2 _ (p.mem_iff.mpr b1)) (b2 _ (p.mem_iff.mp a1))
def isRep (G : Nat → List Nat) (c : Nat) : Bool := decide (G (lastN (ringPath G c)) = [c]) && decide (c = minN (ringPath G c))
theorem rings_filter (f : Fl) : f.rings = ((List.range f.size).filter (isRep f.goals)).map (ringPath f.goals) := by
  have key : ∀ (l : List Nat) (m : List (List Nat)), l.foldl (ringAdd f.goals) m = m ++ (l.filter (isRep f.goals)).map (ringPath f.goals) := fun l => by
    induction l with
    | nil => intro m; simp
    | cons c l ih =>
      intro m
      rw [List.foldl_cons, ih]
      unfold ringAdd
      by_cases q : isRep f.goals c = true
      · have q' := q
        unfold isRep at q
        rw [if_pos (by simpa using q), List.filter_cons_of_pos q']
        simp
      · have q' := q
        unfold isRep at q
        rw [if_neg (fun z => q (by simpa using z)), List.filter_cons_of_neg q']
  have := key (List.range f.size) []
  rw [List.nil_append] at this
  exact this
section
variable {F G : Nat → List Nat} {n : Nat} {φ : Nat → Nat} (C : Car F G n φ)
include C
theorem car_cyc {p : List Nat} (h : Cyc F n p) : Cyc G n (p.map φ) := by
  have hp : ∀ i, pc (p.map φ) i = φ (pc p i) := fun i => by
    have hm := Nat.mod_lt i h.pos
    rw [← pc_mod, ← pc_mod p, List.length_map, pc_at (by rw [List.length_map]; exact hm), pc_at hm, List.getElem_map]
  refine ⟨map_nodup C h.nd h.lt, fun x hx => ?_, by rw [List.length_map]; exact h.pos, fun i => ?_⟩
  · obtain ⟨y, hy, rfl⟩ := List.mem_map.mp hx
    exact C.lt y (h.lt y hy)
  · rw [hp, hp, C.car _ (cyc_lt h i), h.go]; rfl
theorem car_rep : ((List.range n).filter (isRep F)).length ≤ ((List.range n).filter (isRep G)).length := by
  have hf : ∀ c ∈ (List.range n).filter (isRep F), Cyc F n (ringPath F c) ∧ pc (ringPath F c) 0 = c ∧ c = minN (ringPath F c) := fun c hc => by
    obtain ⟨h1, h2⟩ := List.mem_filter.mp hc
    obtain ⟨h3, h4⟩ := Bool.and_eq_true_iff.mp h2
    obtain ⟨a, b⟩ := closing_cyc C.fl C.n30 (List.mem_range.mp h1) (of_decide_eq_true h3)
    exact ⟨a, b, of_decide_eq_true h4⟩
  -- where the least of a ring's picture stands
  have pl : ∀ {p : List Nat}, Cyc F n p → ∃ k, k < p.length ∧ minN (p.map φ) = φ (pc p k) := fun {p} h => by
    have ne : p.map φ ≠ [] := fun e => by have := h.pos; rw [List.map_eq_nil_iff.mp e] at this; simp at this
    obtain ⟨y, hy, e⟩ := List.mem_map.mp (minN_ok ne).1
    obtain ⟨k, hk, e'⟩ := List.getElem_of_mem hy
    exact ⟨k, hk, by rw [pc_at hk, e', e]⟩
  have inj : ((((List.range n).filter (isRep F)).map fun c => minN ((ringPath F c).map φ))).Nodup := by
    rw [List.nodup_iff_pairwise_ne, List.pairwise_map]
    refine (List.nodup_range.filter _).imp_of_mem fun {a b} ha hb hne e => hne ?_
    obtain ⟨c1, p1, m1⟩ := hf a ha
    obtain ⟨c2, p2, m2⟩ := hf b hb
    obtain ⟨k, hk, ek⟩ := pl c1
    obtain ⟨j, hj, ej⟩ := pl c2
    rw [ek, ej] at e
    have e := C.inj _ _ (cyc_lt c1 k) (cyc_lt c2 j) e
    obtain ⟨r1, s1, t1⟩ := cyc_rot c1 hk
    obtain ⟨r2, s2, t2⟩ := cyc_rot c2 hj
    have q1 := ringPath_cyc r1 C.n30
    have q2 := ringPath_cyc r2 C.n30
    rw [s1, e, ← s2, q2] at q1
    rw [m1, m2]
    have ne1 : ringPath F a ≠ [] := List.length_pos_iff.mp c1.pos
    exact minN_mem ne1 (t1.symm.trans (by rw [← q1]; exact t2))
  have := len_sub inj (m := (List.range n).filter (isRep G)) fun x hx => by
    obtain ⟨c, hc, rfl⟩ := List.mem_map.mp hx
    obtain ⟨c1, p1, m1⟩ := hf c hc
    obtain ⟨k, hk, ek⟩ := pl c1
    obtain ⟨r1, s1, t1⟩ := cyc_rot c1 hk
    have g1 := car_cyc C r1
    have q1 := ringPath_cyc g1 C.n30
    have e0 : pc ((rotN (ringPath F c) k).map φ) 0 = φ (pc (ringPath F c) k) := by
      rw [← s1, pc_at g1.pos, pc_at r1.pos, List.getElem_map]
    rw [e0] at q1
    have hx : minN ((ringPath F c).map φ) < n := by rw [ek]; exact C.lt _ (cyc_lt c1 k)
    refine List.mem_filter.mpr ⟨List.mem_range.mpr hx, ?_⟩
    unfold isRep
    rw [ek, q1, Bool.and_eq_true]
    have gp := g1.pos
    refine ⟨decide_eq_true ?_, decide_eq_true ?_⟩
    · have := g1.go (((rotN (ringPath F c) k).map φ).length - 1)
      rw [last_pc gp, this, Nat.sub_add_cancel gp, ← pc_mod, Nat.mod_self, e0]
    · rw [← ek]
      have ne1 : (ringPath F c).map φ ≠ [] := List.length_pos_iff.mp (by rw [List.length_map]; exact c1.pos)
      exact minN_mem ne1 (t1.symm.map φ)
  rwa [List.length_map] at this
end
end L2.Pv

set_option Elab.async false
set_option linter.all false
set_option maxRecDepth 100000
set_option maxHeartbeats 4000000
set_option autoImplicit false
/-! Floors mirrored and turned. -/
namespace L2.Pv
open PySem PySem.Spec PyProof.Rows

def Side.mir : Side → Side
  | .n => .n | .e => .w | .s => .s | .w => .e
def Side.rgt : Side → Side
  | .n => .e | .e => .s | .s => .w | .w => .n
def Cell.led (σ : Side → Side) : Cell → Cell
  | .belt s => .belt (σ s)
  | .parter s t => .parter (σ s) (σ t)
  | .well s k w => .well (σ s) k w
  | c => c
theorem outs_led (σ : Side → Side) (c : Cell) : (c.led σ).outs = c.outs.map σ := by cases c <;> rfl
theorem led_wall {σ : Side → Side} {c : Cell} : c.led σ = .wall ↔ c = .wall := by cases c <;> simp [Cell.led]
theorem led_fin {σ : Side → Side} {c : Cell} : c.led σ = .fin ↔ c = .fin := by cases c <;> simp [Cell.led]
theorem led_led (σ τ : Side → Side) (c : Cell) : (c.led σ).led τ = c.led fun s => τ (σ s) := by cases c <;> rfl
theorem led_id {σ : Side → Side} (h : ∀ s, σ s = s) (c : Cell) : c.led σ = c := by cases c <;> simp [Cell.led, h]
theorem led_ok {σ : Side → Side} (h : ∀ s t, σ s = σ t → s = t) {c : Cell} (k : c.Ok) : (c.led σ).Ok := by
  cases c with
  | parter s t => exact fun e => k (h _ _ e)
  | _ => exact k
theorem mir_inj : ∀ s t : Side, s.mir = t.mir → s = t := by intro s t; cases s <;> cases t <;> decide
theorem rgt_inj : ∀ s t : Side, s.rgt = t.rgt → s = t := by intro s t; cases s <;> cases t <;> decide

theorem at_map (w h n : Nat) (g : Nat → Cell) {c : Nat} (hc : c < n) : (⟨w, h, (List.range n).map g⟩ : Fl).at c = g c := by
  unfold Fl.at
  rw [List.getD_eq_getElem?_getD, List.getElem?_map, List.getElem?_range hc]; rfl
theorem pt_mod {w x : Nat} (y : Nat) (h : x < w) : (y * w + x) % w = x := by rw [Nat.add_comm, Nat.add_mul_mod_self_right, Nat.mod_eq_of_lt h]
theorem pt_div {w x : Nat} (y : Nat) (h : x < w) : (y * w + x) / w = y := by rw [Nat.add_comm, Nat.add_mul_div_right _ _ (by omega), Nat.div_eq_of_lt h, Nat.zero_add]
theorem pt_lt {w h x y : Nat} (hx : x < w) (hy : y < h) : y * w + x < w * h := by
  have : (y + 1) * w ≤ h * w := Nat.mul_le_mul_right w hy
  rw [Nat.add_mul, Nat.one_mul] at this
  rw [Nat.mul_comm w h]; omega
theorem pt_of {w h c : Nat} (hc : c < w * h) : ∃ x y, x < w ∧ y < h ∧ c = y * w + x := by
  have hw : 0 < w := Nat.pos_of_ne_zero fun e => by subst e; simp at hc
  exact ⟨c % w, c / w, Nat.mod_lt _ hw, Nat.div_lt_of_lt_mul hc, by rw [Nat.mul_comm]; exact (Nat.div_add_mod c w).symm⟩
theorem size_wh {f : Fl} (ok : f.Ok) : f.size = f.wide * f.high := ok.len
theorem Fl.same {f g : Fl} (fo : f.Ok) (go : g.Ok) (hw : f.wide = g.wide) (hh : f.high = g.high) (h : ∀ x y, x < f.wide → y < f.high → f.at (y * f.wide + x) = g.at (y * f.wide + x)) : f = g := by
  have e : f.cells = g.cells := by
    have hl : f.cells.length = g.cells.length := by rw [fo.len, go.len, hw, hh]
    refine List.ext_getElem hl fun c h1 h2 => ?_
    obtain ⟨x, y, hx, hy, e⟩ := pt_of (show c < f.wide * f.high by rw [← fo.len]; exact h1)
    have := h x y hx hy
    rw [← e] at this
    unfold Fl.at at this
    rw [List.getD_eq_getElem?_getD, List.getD_eq_getElem?_getD, List.getElem?_eq_getElem h1, List.getElem?_eq_getElem h2] at this
    exact this
  cases f; cases g
  simp at hw hh e
  rw [hw, hh, e]
def Fl.see (f : Fl) (c : Nat) : Option Nat := if f.at c = .wall then none else some c
theorem beside_pt {f : Fl} {x y : Nat} (hx : x < f.wide) (hy : y < f.high) (s : Side) : f.beside (y * f.wide + x) s = match s with
    | .n => if 0 < y then f.see ((y - 1) * f.wide + x) else none
    | .e => if x + 1 < f.wide then f.see (y * f.wide + (x + 1)) else none
    | .s => if y + 1 < f.high then f.see ((y + 1) * f.wide + x) else none
    | .w => if 0 < x then f.see (y * f.wide + (x - 1)) else none := by
  unfold Fl.beside
  dsimp only
  rw [pt_mod y hx, pt_div y hx]
  have key : ∀ (a d : Int) (X Y : Nat), a = X → d = Y → (d * (f.wide : Int) + a).toNat = Y * f.wide + X := fun a d X Y e1 e2 => by
    subst e1; subst e2
    rw [← Int.natCast_mul, ← Int.natCast_add, Int.toNat_natCast]
  cases s with
  | n =>
    show (if 0 ≤ (x : Int) + 0 ∧ (x : Int) + 0 < f.wide ∧ 0 ≤ (y : Int) + -1 ∧ (y : Int) + -1 < f.high then _ else _) = if 0 < y then _ else _
    by_cases h : 0 < y
    · rw [if_pos ⟨by omega, by omega, by omega, by omega⟩, if_pos h, key _ _ x (y - 1) (by simp [Side.pick]) (by simp [Side.pick]; omega)]; rfl
    · rw [if_neg (by omega), if_neg h]
  | e =>
    show (if 0 ≤ (x : Int) + 1 ∧ (x : Int) + 1 < f.wide ∧ 0 ≤ (y : Int) + 0 ∧ (y : Int) + 0 < f.high then _ else _) = if x + 1 < f.wide then _ else _
    by_cases h : x + 1 < f.wide
    · rw [if_pos ⟨by omega, by omega, by omega, by omega⟩, if_pos h, key _ _ (x + 1) y (by simp [Side.pick]) (by simp [Side.pick])]; rfl
    · rw [if_neg (by omega), if_neg h]
  | s =>
    show (if 0 ≤ (x : Int) + 0 ∧ (x : Int) + 0 < f.wide ∧ 0 ≤ (y : Int) + 1 ∧ (y : Int) + 1 < f.high then _ else _) = if y + 1 < f.high then _ else _
    by_cases h : y + 1 < f.high
    · rw [if_pos ⟨by omega, by omega, by omega, by omega⟩, if_pos h, key _ _ x (y + 1) (by simp [Side.pick]) (by simp [Side.pick])]; rfl
    · rw [if_neg (by omega), if_neg h]
  | w =>
    show (if 0 ≤ (x : Int) + -1 ∧ (x : Int) + -1 < f.wide ∧ 0 ≤ (y : Int) + 0 ∧ (y : Int) + 0 < f.high then _ else _) = if 0 < x then _ else _
    by_cases h : 0 < x
    · rw [if_pos ⟨by omega, by omega, by omega, by omega⟩, if_pos h, key _ _ (x - 1) y (by simp [Side.pick]; omega) (by simp [Side.pick])]; rfl
    · rw [if_neg (by omega), if_neg h]
theorem map_ite {φ : Nat → Nat} {P : Prop} [Decidable P] {a : Option Nat} : (if P then a else none).map φ = if P then a.map φ else none := by split <;> rfl
theorem car_of {f g : Fl} {φ : Nat → Nat} {σ : Side → Side} (fo : f.Ok) (go : g.Ok) (sz : g.size = f.size) (at_ : ∀ c, c < f.size → g.at (φ c) = (f.at c).led σ) (bs : ∀ c s, c < f.size → g.beside (φ c) (σ s) = (f.beside c s).map φ)
    (lt : ∀ c, c < f.size → φ c < f.size) (inj : ∀ a b, a < f.size → b < f.size → φ a = φ b → a = b) : Car f.goals g.goals f.size φ where
  fl := fun _ _ => goals_lt fo
  fn := goals_nd fo
  gl := fun _ _ h => by rw [← sz]; exact goals_lt go h
  gn := goals_nd go
  n30 := Fl.size_le fo
  lt := lt
  inj := inj
  car := fun c hc => by
    unfold Fl.goals
    rw [at_ c hc, outs_led, List.filterMap_map, List.map_filterMap]
    exact congrFun (congrArg List.filterMap (funext fun s => bs c s hc)) _
theorem lost_car {f g : Fl} {φ : Nat → Nat} {σ : Side → Side} (fo : f.Ok) (go : g.Ok) (sz : g.size = f.size) (at_ : ∀ c, c < f.size → g.at (φ c) = (f.at c).led σ) (C : Car f.goals g.goals f.size φ) {c : Nat} (h : c ∈ f.lost) : φ c ∈ g.lost := by
  obtain ⟨h1, h2, h3⟩ := (mem_lost fo).mp h
  refine (mem_lost go).mpr ⟨by rw [sz]; exact C.lt c h1, by rw [at_ c h1, Ne, led_wall]; exact h2, fun y hy => ?_⟩
  obtain ⟨x, hx, rfl⟩ := (car_to C h1).mp hy
  rw [at_ x (To.lt C.fl h1 hx), Ne, led_fin]
  exact h3 x hx
theorem lost_len {f g : Fl} {φ : Nat → Nat} {σ : Side → Side} (fo : f.Ok) (go : g.Ok) (sz : g.size = f.size) (at_ : ∀ c, c < f.size → g.at (φ c) = (f.at c).led σ) (C : Car f.goals g.goals f.size φ) : f.lost.length ≤ g.lost.length := by
  have hl : ∀ c ∈ f.lost, c < f.size := fun c h => ((mem_lost fo).mp h).1
  have := len_sub (map_nodup C (lost_nd f) hl) (m := g.lost) fun y hy => by
    obtain ⟨c, hc, rfl⟩ := List.mem_map.mp hy
    exact lost_car fo go sz at_ C hc
  rwa [List.length_map] at this
/-! ### left and right changed -/
def Fl.mx (f : Fl) (c : Nat) : Nat := c / f.wide * f.wide + f.wide - 1 - c % f.wide
def Fl.mir (f : Fl) : Fl := ⟨f.wide, f.high, (List.range (f.wide * f.high)).map fun c => (f.at (f.mx c)).led Side.mir⟩
theorem mx_pt {f : Fl} {x y : Nat} (hx : x < f.wide) : f.mx (y * f.wide + x) = y * f.wide + (f.wide - 1 - x) := by
  unfold Fl.mx
  rw [pt_mod y hx, pt_div y hx]; omega
section
variable {f : Fl} (ok : f.Ok)
include ok
theorem mir_ok : f.mir.Ok := ⟨ok.w1, ok.w6, ok.h1, ok.h5, by unfold Fl.mir; simp, fun c hc => by
  obtain ⟨i, _, rfl⟩ := List.mem_map.mp hc
  exact led_ok mir_inj (Fl.at_ok ok _)⟩
theorem mir_size : f.mir.size = f.size := by rw [size_wh (mir_ok ok), size_wh ok]; rfl
theorem mir_at {x y : Nat} (hx : x < f.wide) (hy : y < f.high) : f.mir.at (y * f.wide + x) = (f.at (y * f.wide + (f.wide - 1 - x))).led Side.mir := by
  unfold Fl.mir
  rw [at_map _ _ _ _ (pt_lt hx hy), mx_pt hx]
theorem mx_lt {c : Nat} (h : c < f.size) : f.mx c < f.size := by
  rw [size_wh ok] at h ⊢
  obtain ⟨x, y, hx, hy, rfl⟩ := pt_of h
  rw [mx_pt hx]
  exact pt_lt (by omega) hy
theorem mx_mx {c : Nat} (h : c < f.size) : f.mx (f.mx c) = c := by
  rw [size_wh ok] at h
  obtain ⟨x, y, hx, hy, rfl⟩ := pt_of h
  rw [mx_pt hx, mx_pt (by omega)]
  omega
theorem mir_mx {c : Nat} (h : c < f.size) : f.mir.at (f.mx c) = (f.at c).led Side.mir := by
  rw [size_wh ok] at h
  obtain ⟨x, y, hx, hy, rfl⟩ := pt_of h
  have e2 : f.wide - 1 - (f.wide - 1 - x) = x := by omega
  rw [mx_pt hx, mir_at ok (by omega) hy, e2]
theorem mir_see {x y : Nat} (hx : x < f.wide) (hy : y < f.high) : f.mir.see (y * f.wide + (f.wide - 1 - x)) = (f.see (y * f.wide + x)).map f.mx := by
  have e := mir_mx ok (show y * f.wide + x < f.size by rw [size_wh ok]; exact pt_lt hx hy)
  rw [mx_pt hx] at e
  unfold Fl.see
  rw [e]
  by_cases h : f.at (y * f.wide + x) = .wall
  · rw [if_pos (led_wall.mpr h), if_pos h]; rfl
  · rw [if_neg (fun z => h (led_wall.mp z)), if_neg h]
    show _ = some (f.mx _)
    rw [mx_pt hx]
theorem mir_beside {c : Nat} (s : Side) (h : c < f.size) : f.mir.beside (f.mx c) s.mir = (f.beside c s).map f.mx := by
  rw [size_wh ok] at h
  obtain ⟨x, y, hx, hy, rfl⟩ := pt_of h
  rw [mx_pt hx, beside_pt hx hy]
  have key := fun s => beside_pt (f := f.mir) (x := f.wide - 1 - x) (y := y) (show f.wide - 1 - x < f.wide by omega) hy s
  rw [show f.mir.wide = f.wide from rfl, show f.mir.high = f.high from rfl] at key
  rw [key]
  cases s with
  | n =>
    dsimp only [Side.mir]
    by_cases q : 0 < y
    · rw [if_pos q, if_pos q, mir_see ok hx (by omega)]
    · rw [if_neg q, if_neg q]; rfl
  | s =>
    dsimp only [Side.mir]
    by_cases q : y + 1 < f.high
    · rw [if_pos q, if_pos q, mir_see ok hx q]
    · rw [if_neg q, if_neg q]; rfl
  | e =>
    dsimp only [Side.mir]
    by_cases q : x + 1 < f.wide
    · rw [if_pos (by omega), if_pos q, ← mir_see ok q hy]
      congr 1
    · rw [if_neg (by omega), if_neg q]; rfl
  | w =>
    dsimp only [Side.mir]
    by_cases q : 0 < x
    · rw [if_pos (by omega), if_pos q, ← mir_see ok (show x - 1 < f.wide by omega) hy]
      congr 1; omega
    · rw [if_neg (by omega), if_neg q]; rfl
theorem mir_car : Car f.goals f.mir.goals f.size f.mx :=
  car_of ok (mir_ok ok) (mir_size ok) (fun c h => mir_mx ok h) (fun c s h => mir_beside ok s h) (fun c h => mx_lt ok h) fun a b ha hb e => by rw [← mx_mx ok ha, ← mx_mx ok hb, e]
theorem mir_mir : f.mir.mir = f := Fl.same (mir_ok (mir_ok ok)) ok rfl rfl fun x y hx hy => by
  have hx : x < f.wide := hx
  have e := mir_at (mir_ok ok) (x := x) (y := y) hx hy
  rw [show f.mir.mir.wide = f.wide from rfl]
  rw [show f.mir.wide = f.wide from rfl] at e
  have e2 : f.wide - 1 - (f.wide - 1 - x) = x := by omega
  rw [e, mir_at ok (by omega) hy, led_led, led_id (fun s => by cases s <;> rfl), e2]
theorem mir_lost : f.mir.lost = sortN (f.lost.map f.mx) := by
  have hl : ∀ c ∈ f.lost, c < f.size := fun c h => ((mem_lost ok).mp h).1
  refine (sortN_one ?_ (lost_sorted _)).symm
  refine (List.perm_ext_iff_of_nodup (map_nodup (mir_car ok) (lost_nd f) hl) (lost_nd _)).mpr fun y => ⟨fun h => ?_, fun h => ?_⟩
  · obtain ⟨c, hc, rfl⟩ := List.mem_map.mp h
    exact lost_car ok (mir_ok ok) (mir_size ok) (fun c h => mir_mx ok h) (mir_car ok) hc
  · have := lost_car (mir_ok ok) (mir_ok (mir_ok ok)) (mir_size (mir_ok ok)) (fun c h => mir_mx (mir_ok ok) h) (mir_car (mir_ok ok)) h
    rw [mir_mir ok] at this
    have hy : y < f.size := by have := ((mem_lost (mir_ok ok)).mp h).1; rwa [mir_size ok] at this
    exact List.mem_map.mpr ⟨_, this, mx_mx ok hy⟩
theorem mir_rings : f.mir.rings.length = f.rings.length := by
  have a := car_rep (mir_car ok)
  have b := car_rep (mir_car (mir_ok ok))
  rw [mir_mir ok, mir_size ok] at b
  rw [rings_filter, rings_filter, List.length_map, List.length_map, mir_size ok]
  exact Nat.le_antisymm b a
end
/-! ### a quarter to the right -/
def Fl.tx (f : Fl) (c : Nat) : Nat := c % f.wide * f.high + (f.high - 1 - c / f.wide)
def Fl.trn (f : Fl) : Fl := ⟨f.high, f.wide, (List.range (f.high * f.wide)).map fun c => (f.at ((f.high - 1 - c % f.high) * f.wide + c / f.high)).led Side.rgt⟩
theorem tx_pt {f : Fl} {x y : Nat} (hx : x < f.wide) : f.tx (y * f.wide + x) = x * f.high + (f.high - 1 - y) := by
  unfold Fl.tx
  rw [pt_mod y hx, pt_div y hx]
section
variable {f : Fl} (ok : f.Ok)
include ok
theorem trn_ok (h5 : f.wide ≤ 5) : f.trn.Ok := ⟨ok.h1, Nat.le_trans ok.h5 (by decide), ok.w1, h5, by unfold Fl.trn; simp, fun c hc => by
  obtain ⟨i, _, rfl⟩ := List.mem_map.mp hc
  exact led_ok rgt_inj (Fl.at_ok ok _)⟩
theorem trn_at {x y : Nat} (hx : x < f.high) (hy : y < f.wide) : f.trn.at (y * f.high + x) = (f.at ((f.high - 1 - x) * f.wide + y)).led Side.rgt := by
  unfold Fl.trn
  rw [at_map _ _ _ _ (pt_lt hx hy), pt_mod y hx, pt_div y hx]
theorem trn_tx {c : Nat} (h : c < f.size) : f.trn.at (f.tx c) = (f.at c).led Side.rgt := by
  rw [size_wh ok] at h
  obtain ⟨x, y, hx, hy, rfl⟩ := pt_of h
  have e2 : f.high - 1 - (f.high - 1 - y) = y := by omega
  rw [tx_pt hx, trn_at ok (by omega) hx, e2]
theorem trn_see {x y : Nat} (hx : x < f.wide) (hy : y < f.high) : f.trn.see (x * f.high + (f.high - 1 - y)) = (f.see (y * f.wide + x)).map f.tx := by
  have e := trn_tx ok (show y * f.wide + x < f.size by rw [size_wh ok]; exact pt_lt hx hy)
  rw [tx_pt hx] at e
  unfold Fl.see
  rw [e]
  by_cases h : f.at (y * f.wide + x) = .wall
  · rw [if_pos (led_wall.mpr h), if_pos h]; rfl
  · rw [if_neg (fun z => h (led_wall.mp z)), if_neg h]
    show _ = some (f.tx _)
    rw [tx_pt hx]
theorem trn_beside {c : Nat} (s : Side) (h : c < f.size) : f.trn.beside (f.tx c) s.rgt = (f.beside c s).map f.tx := by
  rw [size_wh ok] at h
  obtain ⟨x, y, hx, hy, rfl⟩ := pt_of h
  rw [tx_pt hx, beside_pt hx hy]
  have key := fun s => beside_pt (f := f.trn) (x := f.high - 1 - y) (y := x) (show f.high - 1 - y < f.high by omega) hx s
  rw [show f.trn.wide = f.high from rfl, show f.trn.high = f.wide from rfl] at key
  rw [key]
  cases s with
  | n =>
    dsimp only [Side.rgt]
    by_cases q : 0 < y
    · rw [if_pos (by omega), if_pos q, ← trn_see ok hx (show y - 1 < f.high by omega)]
      congr 1; omega
    · rw [if_neg (by omega), if_neg q]; rfl
  | s =>
    dsimp only [Side.rgt]
    by_cases q : y + 1 < f.high
    · rw [if_pos (by omega), if_pos q, ← trn_see ok hx q]
      congr 1
    · rw [if_neg (by omega), if_neg q]; rfl
  | e =>
    dsimp only [Side.rgt]
    by_cases q : x + 1 < f.wide
    · rw [if_pos q, if_pos q, trn_see ok q hy]
    · rw [if_neg q, if_neg q]; rfl
  | w =>
    dsimp only [Side.rgt]
    by_cases q : 0 < x
    · rw [if_pos q, if_pos q, trn_see ok (show x - 1 < f.wide by omega) hy]
    · rw [if_neg q, if_neg q]; rfl
variable (h5 : f.wide ≤ 5)
include h5
theorem trn_size : f.trn.size = f.size := by rw [size_wh (trn_ok ok h5), size_wh ok, Nat.mul_comm f.wide]; rfl
theorem trn_car : Car f.goals f.trn.goals f.size f.tx :=
  car_of ok (trn_ok ok h5) (trn_size ok h5) (fun c h => trn_tx ok h) (fun c s h => trn_beside ok s h) (fun c h => by
    rw [size_wh ok] at h ⊢
    obtain ⟨x, y, hx, hy, rfl⟩ := pt_of h
    rw [tx_pt hx, Nat.mul_comm f.wide]
    exact pt_lt (by omega) hx) fun a b ha hb e => by
    rw [size_wh ok] at ha hb
    obtain ⟨x, y, hx, hy, rfl⟩ := pt_of ha
    obtain ⟨x', y', hx', hy', rfl⟩ := pt_of hb
    rw [tx_pt hx, tx_pt hx'] at e
    have e1 := pt_mod (w := f.high) (x := f.high - 1 - y) x (by omega)
    have e2 := pt_div (w := f.high) (x := f.high - 1 - y) x (by omega)
    rw [e, pt_mod x' (by omega)] at e1
    rw [e, pt_div x' (by omega)] at e2
    subst e2
    have : y = y' := by omega
    rw [this]
theorem trn_lost : f.lost.length ≤ f.trn.lost.length := lost_len ok (trn_ok ok h5) (trn_size ok h5) (fun c h => trn_tx ok h) (trn_car ok h5)
theorem trn4 : f.trn.trn.trn.trn = f := by
  have o1 := trn_ok ok h5
  have o2 := trn_ok o1 ok.h5
  have o3 := trn_ok o2 h5
  have o4 := trn_ok o3 ok.h5
  refine Fl.same o4 ok rfl rfl fun x y hx hy => ?_
  have hx : x < f.wide := hx
  have hy : y < f.high := hy
  have a4 := trn_at o3 (x := x) (y := y) hx hy
  have a3 := trn_at o2 (x := y) (y := f.wide - 1 - x) hy (show f.wide - 1 - x < f.wide by omega)
  have a2 := trn_at o1 (x := f.wide - 1 - x) (y := f.high - 1 - y) (show f.wide - 1 - x < f.wide by omega) (show f.high - 1 - y < f.high by omega)
  have a1 := trn_at ok (x := f.high - 1 - y) (y := f.wide - 1 - (f.wide - 1 - x)) (by omega) (by omega)
  have e1 : f.trn.trn.trn.high = f.wide := rfl
  have e2 : f.trn.trn.trn.wide = f.high := rfl
  have e3 : f.trn.trn.high = f.high := rfl
  have e4 : f.trn.trn.wide = f.wide := rfl
  have e5 : f.trn.high = f.wide := rfl
  have e6 : f.trn.wide = f.high := rfl
  rw [e1, e2] at a4
  rw [e3, e4] at a3
  rw [e5, e6] at a2
  show f.trn.trn.trn.trn.at (y * f.wide + x) = f.at (y * f.wide + x)
  rw [a4, a3, a2, a1, led_led, led_led, led_led, led_id (fun s => by cases s <;> rfl)]
  congr 1
  have : f.high - 1 - (f.high - 1 - y) = y := by omega
  rw [this]
  omega
theorem trn_lost_eq : f.trn.lost.length = f.lost.length := by
  have o1 := trn_ok ok h5
  have o2 := trn_ok o1 ok.h5
  have o3 := trn_ok o2 h5
  have l1 := trn_lost ok h5
  have l2 := trn_lost o1 ok.h5
  have l3 := trn_lost o2 h5
  have l4 := trn_lost o3 ok.h5
  rw [trn4 ok h5] at l4
  omega
theorem trn_mir : f.trn.mir.trn = f.mir := by
  have o1 := trn_ok ok h5
  have o2 := mir_ok o1
  have o3 := trn_ok o2 ok.h5
  refine Fl.same o3 (mir_ok ok) rfl rfl fun x y hx hy => ?_
  have hx : x < f.wide := hx
  have hy : y < f.high := hy
  have a3 := trn_at o2 (x := x) (y := y) hx hy
  have a2 := mir_at o1 (x := y) (y := f.wide - 1 - x) hy (show f.wide - 1 - x < f.wide by omega)
  have a1 := trn_at ok (x := f.high - 1 - y) (y := f.wide - 1 - x) (by omega) (by omega)
  have e1 : f.trn.mir.high = f.wide := rfl
  have e2 : f.trn.mir.wide = f.high := rfl
  have e6 : f.trn.wide = f.high := rfl
  rw [e1, e2] at a3
  rw [e6] at a2
  show f.trn.mir.trn.at (y * f.wide + x) = f.mir.at (y * f.wide + x)
  rw [a3, a2, a1, mir_at ok hx hy, led_led, led_led]
  have : f.high - 1 - (f.high - 1 - y) = y := by omega
  rw [this]
  congr 1
  funext s
  cases s <;> rfl
end
/-! ### other kinds -/
def Fl.rek (f : Fl) (κ : Nat → Nat) : Fl := ⟨f.wide, f.high, f.cells.map (Cell.rel κ)⟩
section
variable {f : Fl} {κ : Nat → Nat} (ok : f.Ok) (k3 : ∀ k, k < 3 → κ k < 3)
include ok k3
theorem rek_ok : (f.rek κ).Ok := ⟨ok.w1, ok.w6, ok.h1, ok.h5, by unfold Fl.rek; simp [ok.len], fun c hc => by
  obtain ⟨d, hd, rfl⟩ := List.mem_map.mp hc
  have := ok.ok d hd
  cases d with
  | well s k w => exact ⟨k3 _ this.1, this.2⟩
  | _ => exact this⟩
theorem rek_size : (f.rek κ).size = f.size := by unfold Fl.size Fl.rek; simp
theorem rek_at (c : Nat) : (f.rek κ).at c = (f.at c).rel κ := by
  unfold Fl.at Fl.rek
  rw [List.getD_eq_getElem?_getD, List.getD_eq_getElem?_getD, List.getElem?_map]
  cases f.cells[c]? <;> rfl
omit ok k3 in
theorem rel_wall {c : Cell} : c.rel κ = .wall ↔ c = .wall := by cases c <;> simp [Cell.rel]
omit ok k3 in
theorem rel_outs (c : Cell) : (c.rel κ).outs = c.outs := by cases c <;> rfl
theorem rek_beside (c : Nat) (s : Side) : (f.rek κ).beside c s = f.beside c s := by
  unfold Fl.beside
  simp only [rek_at ok k3, rel_wall]
  rfl
theorem rek_goals (c : Nat) : (f.rek κ).goals c = f.goals c := by
  unfold Fl.goals
  rw [rek_at ok k3, rel_outs]
  exact congrFun (congrArg List.filterMap (funext fun s => rek_beside ok k3 c s)) _
theorem rek_comers (c : Nat) : (f.rek κ).comers c = f.comers c := by
  unfold Fl.comers
  simp only [rek_goals ok k3]
  rw [show (f.rek κ).beside c = f.beside c from funext fun s => rek_beside ok k3 c s]
theorem rek_emb (ki : ∀ a b, a < 3 → b < 3 → κ a = κ b → a = b) : Emb f (f.rek κ) id κ where
  fo := ok
  go := rek_ok ok k3
  lt := fun c h => by rw [rek_size ok k3]; exact h
  inj := fun _ _ _ _ e => e
  kin := ki
  at_ := fun c _ => rek_at ok k3 c
  gl := fun c _ => by rw [id, rek_goals ok k3, List.map_id]
  co := fun c _ => by rw [id, rek_comers ok k3, List.map_id]
omit ok k3 in
theorem rek_rek {μ : Nat → Nat} (ok : f.Ok) (h : ∀ k, k < 3 → μ (κ k) = k) : (f.rek κ).rek μ = f := by
  have e : (f.cells.map (Cell.rel κ)).map (Cell.rel μ) = f.cells := by
    rw [List.map_map]
    conv => rhs; rw [← List.map_id f.cells]
    refine List.map_congr_left fun c hc => ?_
    have := ok.ok c hc
    cases c with
    | well s k w => show Cell.well s (μ (κ k)) w = _; rw [h k this.1]; rfl
    | _ => rfl
  unfold Fl.rek
  rw [e]
end
/-! ### a cell put -/
theorem put_put {f : Fl} (c : Nat) (x : Cell) : (f.put c x).put c (f.at c) = f := by
  unfold Fl.put
  have : (f.cells.set c x).set c (f.at c) = f.cells := by
    rw [List.set_set]
    by_cases h : c < f.cells.length
    · unfold Fl.at
      rw [List.getD_eq_getElem?_getD, List.getElem?_eq_getElem h]
      exact List.set_getElem_self h
    · rw [List.set_eq_of_length_le (by omega)]
  rw [this]
theorem put_size (f : Fl) (c : Nat) (x : Cell) : (f.put c x).size = f.size := by unfold Fl.size Fl.put; simp
theorem set_cut {l : List D} {c : Nat} (h : c < l.length) (x : D) : l.take c ++ [x] ++ l.drop (c + 1) = l.set c x := by
  rw [List.set_eq_take_append_cons_drop, if_pos h, List.append_assoc]; rfl
theorem fl_sh {f : Fl} (ok : f.Ok) : D.sh 3 f.enc = true := by
  have h : (f.cells.map Cell.enc).all (D.sh 1) = true := by
    rw [List.all_map, List.all_eq_true]
    exact fun c hc => Cell.sh (ok.ok c hc)
  show (D.sh 2 (.int f.wide) && (D.sh 2 (.int f.high) && (D.sh 2 (.tup (f.cells.map Cell.enc)) && true))) = true
  rw [show D.sh 2 (.tup (f.cells.map Cell.enc)) = true from h]
  rfl
end L2.Pv

set_option Elab.async false
set_option linter.all false
set_option maxRecDepth 100000
set_option maxHeartbeats 4000000
set_option autoImplicit false
namespace L2.Pv.Lw
open PySem PySem.Spec PyProof.Rows
/-- a def that the top has made -/
def FD (K : PySem.W.Frag) (x : Str) (st : Stmt) : Prop := ∃ fd, FunD K x x (defArgs st) (defBody st) (defScope st) [] [] (He.fAd K (x, none)) fd
def FDm (K : PySem.W.Frag) (c m q : Str) (st : Stmt) : Prop := ∃ fd, FunD K m q (defArgs st) (defBody st) (defScope st) [] [] (He.fAd K (c, some m)) fd
/-- what the top has left -/
structure Txt (K : PySem.W.Frag) (w : World) (mg : Str → Option Value) : Prop where
  d_MIRROR : GDct K w mg "MIRROR" [("n", .str "n"), ("e", .str "w"), ("s", .str "s"), ("w", .str "e")]
  d_RIGHT : GDct K w mg "RIGHT" [("n", .str "e"), ("e", .str "s"), ("s", .str "w"), ("w", .str "n")]
  m_bool : mg "bool" = none
  m_dict : mg "dict" = none
  m_int : mg "int" = none
  m_isinstance : mg "isinstance" = none
  m_len : mg "len" = none
  m_range : mg "range" = none
  m_sorted : mg "sorted" = none
  m_str : mg "str" = none
  m_tuple : mg "tuple" = none
  m_zip : mg "zip" = none
  c_MOST_HIGH : ∃ t, mg "MOST_HIGH" = some (.int 5 t)
  c_MOST_WAIT : ∃ t, mg "MOST_WAIT" = some (.int 5 t)
  c_MOST_WIDE : ∃ t, mg "MOST_WIDE" = some (.int 6 t)
  c_SIDES : GTup K mg "SIDES" [.str "n", .str "e", .str "s", .str "w"]
  x_BadCell : ExF K mg "BadCell"
  x_BadCount : ExF K mg "BadCount"
  x_BadFloor : ExF K mg "BadFloor"
  x_BadKinds : ExF K mg "BadKinds"
  x_BadState : ExF K mg "BadState"
  x_BadText : ExF K mg "BadText"
  x_Nothing : ExF K mg "Nothing"
  x_TooLong : ExF K mg "TooLong"
  sub : SubOk K mg subX excs
section
variable {P : Program} {w : World} {K : PySem.W.Frag} {mg : Str → Option Value} {base : Heap}
/-! ### _law_cell -/
theorem sc__law_cell : FnScope ["_law_script", "_law_k"] ["_law_script", "_law_k"] (defScope s__law_cell) := ⟨rfl, rfl, rfl, by decide +kernel, rfl, by decide +kernel, by decide +kernel⟩
def b__law_cell : SM := (sSeq (sIf (tOf (eOp D.lt (eV 1) (eBf bLen [(eV 0)]))) (sRet (eOp D.idx (eV 0) (eV 1))) (fun ρ => Out.nx ρ)) (sRet (eK (.int 0))))
def f__law_cell : List D → R D := runM 2 b__law_cell
theorem ok__law_cell (T : Txt K w mg) (F : FD K "_law_cell" s__law_cell) (hm : mg "_law_cell" = some (.ref (He.fAd K ("_law_cell", none))))  : Fn K mg P w base "_law_cell" 2 1 f__law_cell := by
  obtain ⟨fd, F⟩ := F
  have SC := sc__law_cell
  exact fn_mk (N := ["_law_script", "_law_k"]) (ps := ["_law_script", "_law_k"]) F hm sc__law_cell rfl (fun _ _ _ _ _ _ us hl => match us, hl with | [_, _], _ => rfl) fun cdv A outer s H E F0 hr tk hp => (sm_cons (sm_if (tm_cmp opm_lt (PEm.bo (em_v 1 rfl (.inl rfl))) (PEm.bo (em_bf cm_len rfl T.m_len PySem.boot_len (ab_cons (PEm.bo (em_v 0 rfl (.inl rfl))) ab_nil))) (nomark _)) (sm_one (sm_ret (em_idx (hu65 hr) (PEm.bo (em_v 0 rfl (.inl rfl))) (PEm.bo (em_v 1 rfl (.inl rfl)))))) sm_nil) (sm_one (sm_ret em_int)))
/-! ### _law_seed -/
theorem sc__law_seed : FnScope ["_law_seed_here", "_law_k"] ["_law_seed_here", "_law_k"] (defScope s__law_seed) := ⟨rfl, rfl, rfl, by decide +kernel, rfl, by decide +kernel, by decide +kernel⟩
def b__law_seed : SM := (sRet (eOp D.mod (eOp D.pow (eOp D.mod (eOp D.add (eOp D.add (eOp D.mul (eV 0) (eK (.int 1103515245))) (eOp D.mul (eK (.int 7919)) (eV 1))) (eK (.int 12345))) (eK (.int 2147483647))) (eK (.int 5))) (eK (.int 2147483647))))
def f__law_seed : List D → R D := runM 2 b__law_seed
theorem ok__law_seed (T : Txt K w mg) (F : FD K "_law_seed" s__law_seed) (hm : mg "_law_seed" = some (.ref (He.fAd K ("_law_seed", none))))  : Fn K mg P w base "_law_seed" 2 1 f__law_seed := by
  obtain ⟨fd, F⟩ := F
  have SC := sc__law_seed
  exact fn_mk (N := ["_law_seed_here", "_law_k"]) (ps := ["_law_seed_here", "_law_k"]) F hm sc__law_seed rfl (fun _ _ _ _ _ _ us hl => match us, hl with | [_, _], _ => rfl) fun cdv A outer s H E F0 hr tk hp => (sm_one (sm_ret (em_bin opm_mod (PEm.bo (em_bin opm_pow (PEm.bo (em_bin opm_mod (PEm.bo (em_bin opm_add (PEm.bo (em_bin opm_add (PEm.bo (em_bin opm_mul (PEm.bo (em_v 0 rfl (.inl rfl))) (PEm.bo em_int))) (PEm.bo (em_bin opm_mul (PEm.bo em_int) (PEm.bo (em_v 1 rfl (.inl rfl))))))) (PEm.bo em_int))) (PEm.bo em_int))) (PEm.bo em_int))) (PEm.bo em_int))))
/-! ### _law_pick -/
theorem sc__law_pick : FnScope ["_law_seed_here", "_law_many"] ["_law_seed_here", "_law_many"] (defScope s__law_pick) := ⟨rfl, rfl, rfl, by decide +kernel, rfl, by decide +kernel, by decide +kernel⟩
def b__law_pick : SM := (sRet (eOp D.mod (eOp D.fdiv (eV 0) (eK (.int 97))) (eV 1)))
def f__law_pick : List D → R D := runM 2 b__law_pick
theorem ok__law_pick (T : Txt K w mg) (F : FD K "_law_pick" s__law_pick) (hm : mg "_law_pick" = some (.ref (He.fAd K ("_law_pick", none))))  : Fn K mg P w base "_law_pick" 2 1 f__law_pick := by
  obtain ⟨fd, F⟩ := F
  have SC := sc__law_pick
  exact fn_mk (N := ["_law_seed_here", "_law_many"]) (ps := ["_law_seed_here", "_law_many"]) F hm sc__law_pick rfl (fun _ _ _ _ _ _ us hl => match us, hl with | [_, _], _ => rfl) fun cdv A outer s H E F0 hr tk hp => (sm_one (sm_ret (em_bin opm_mod (PEm.bo (em_bin opm_fdiv (PEm.bo (em_v 0 rfl (.inl rfl))) (PEm.bo em_int))) (PEm.bo (em_v 1 rfl (.inl rfl))))))
/-! ### _law_cell_of -/
theorem sc__law_cell_of : FnScope ["_law_seed_here", "_law_side", "_law_other", "_law_pick_here"] ["_law_seed_here", "_law_side"] (defScope s__law_cell_of) := ⟨rfl, rfl, rfl, by decide +kernel, rfl, by decide +kernel, by decide +kernel⟩
def b__law_cell_of : SM := (sSeq (sSet 2 (eOp D.idx (eK (.str "nesw")) (eOp D.mod (eOp D.fdiv (eV 0) (eK (.int 7))) (eK (.int 4))))) (sSeq (sSet 3 (eCall f__law_pick [(eV 0), (eK (.int 12))])) (sSeq (sIf (tOf (eOp D.lt (eV 3) (eK (.int 6)))) (sRet (eTup [(eK (.str "belt")), (eIf (tOf (eOp D.gt (eOp D.mod (eOp D.fdiv (eV 0) (eK (.int 11))) (eK (.int 4))) (eK (.int 0)))) (eV 1) (eV 2))])) (fun ρ => Out.nx ρ)) (sSeq (sIf (tOf (eOp D.eq (eV 3) (eK (.int 6)))) (sRet (eTup [(eK (.str "wall"))])) (fun ρ => Out.nx ρ)) (sSeq (sIf (tOf (eOp D.lt (eV 3) (eK (.int 9)))) (sRet (eTup [(eK (.str "well")), (eV 1), (eOp D.idx (eK (.str "abc")) (eOp D.mod (eOp D.fdiv (eV 0) (eK (.int 13))) (eK (.int 3)))), (eOp D.add (eK (.int 1)) (eOp D.mod (eOp D.fdiv (eV 0) (eK (.int 17))) (eK (.int 5))))])) (fun ρ => Out.nx ρ)) (sSeq (sIf (tOf (eOp D.eq (eV 3) (eK (.int 9)))) (sRet (eTup [(eK (.str "end"))])) (fun ρ => Out.nx ρ)) (sRet (eTup [(eK (.str "parter")), (eV 1), (eOp D.idx (eK (.str "nesw")) (eOp D.mod (eOp D.add (eOp D.add (eMet D.isStr mIndexS (eK (.str "nesw")) [(eV 1)]) (eK (.int 1))) (eOp D.mod (eOp D.fdiv (eV 0) (eK (.int 19))) (eK (.int 3)))) (eK (.int 4))))]))))))))
def f__law_cell_of : List D → R D := runM 4 b__law_cell_of
theorem ok__law_cell_of (T : Txt K w mg) (F : FD K "_law_cell_of" s__law_cell_of) (hm : mg "_law_cell_of" = some (.ref (He.fAd K ("_law_cell_of", none)))) (G__law_pick : Fn K mg P w base "_law_pick" 2 1 f__law_pick) : Fn K mg P w base "_law_cell_of" 2 2 f__law_cell_of := by
  obtain ⟨fd, F⟩ := F
  have SC := sc__law_cell_of
  exact fn_mk (N := ["_law_seed_here", "_law_side", "_law_other", "_law_pick_here"]) (ps := ["_law_seed_here", "_law_side"]) F hm sc__law_cell_of rfl (fun _ _ _ _ _ _ us hl => match us, hl with | [_, _], _ => rfl) fun cdv A outer s H E F0 hr tk hp => (sm_cons (sm_set (i := 2) SC.nd rfl (.inl rfl) (em_idx (hu65 hr) (PEm.bo em_str) (PEm.bo (em_bin opm_mod (PEm.bo (em_bin opm_fdiv (PEm.bo (em_v 0 rfl (.inl rfl))) (PEm.bo em_int))) (PEm.bo em_int))))) (sm_cons (sm_set (i := 3) SC.nd rfl (.inl rfl) (em_call G__law_pick hr (by decide) tk rfl (am_cons (em_v 0 rfl (.inl rfl)) (am_cons em_int am_nil)))) (sm_cons (sm_if (tm_cmp opm_lt (PEm.bo (em_v 3 rfl (.inl rfl))) (PEm.bo em_int) (nomark _)) (sm_one (sm_ret (em_tup (am_cons em_str (am_cons (em_if (tm_cmp opm_gt (PEm.bo (em_bin opm_mod (PEm.bo (em_bin opm_fdiv (PEm.bo (em_v 0 rfl (.inl rfl))) (PEm.bo em_int))) (PEm.bo em_int))) (PEm.bo em_int) (nomark _)) (em_v 1 rfl (.inl rfl)) (em_v 2 rfl (.inl rfl))) am_nil))))) sm_nil) (sm_cons (sm_if (tm_cmp (opm_eq hr.units) (PEm.bo (em_v 3 rfl (.inl rfl))) (PEm.bo em_int) (nomark _)) (sm_one (sm_ret (em_tup (am_cons em_str am_nil)))) sm_nil) (sm_cons (sm_if (tm_cmp opm_lt (PEm.bo (em_v 3 rfl (.inl rfl))) (PEm.bo em_int) (nomark _)) (sm_one (sm_ret (em_tup (am_cons em_str (am_cons (em_v 1 rfl (.inl rfl)) (am_cons (em_idx (hu65 hr) (PEm.bo em_str) (PEm.bo (em_bin opm_mod (PEm.bo (em_bin opm_fdiv (PEm.bo (em_v 0 rfl (.inl rfl))) (PEm.bo em_int))) (PEm.bo em_int)))) (am_cons (em_bin opm_add (PEm.bo em_int) (PEm.bo (em_bin opm_mod (PEm.bo (em_bin opm_fdiv (PEm.bo (em_v 0 rfl (.inl rfl))) (PEm.bo em_int))) (PEm.bo em_int)))) am_nil))))))) sm_nil) (sm_cons (sm_if (tm_cmp (opm_eq hr.units) (PEm.bo (em_v 3 rfl (.inl rfl))) (PEm.bo em_int) (nomark _)) (sm_one (sm_ret (em_tup (am_cons em_str am_nil)))) sm_nil) (sm_one (sm_ret (em_tup (am_cons em_str (am_cons (em_v 1 rfl (.inl rfl)) (am_cons (em_idx (hu65 hr) (PEm.bo em_str) (PEm.bo (em_bin opm_mod (PEm.bo (em_bin opm_add (PEm.bo (em_bin opm_add (PEm.bo (em_met isStr_ty PySem.F.plainAttrs_str PySem.F.slot_str_index PySem.F.type_str_index mm_indexS (PEm.bo em_str) (ab_cons (PEm.bo (em_v 1 rfl (.inl rfl))) ab_nil))) (PEm.bo em_int))) (PEm.bo (em_bin opm_mod (PEm.bo (em_bin opm_fdiv (PEm.bo (em_v 0 rfl (.inl rfl))) (PEm.bo em_int))) (PEm.bo em_int))))) (PEm.bo em_int)))) am_nil))))))))))))
/-! ### _law_floor -/
theorem sc__law_floor : FnScope ["_law_script", "_law_first", "_law_wide", "_law_high", "_law_cells", "_law_down", "_law_across", "_law_side", "_law_seed_here", "_law_thing"] ["_law_script", "_law_first"] (defScope s__law_floor) := ⟨rfl, rfl, rfl, by decide +kernel, rfl, by decide +kernel, by decide +kernel⟩
def b__law_floor : SM := (sSeq (sPar2 2 3 (eOp D.add (eK (.int 1)) (eOp D.mod (eCall f__law_cell [(eV 0), (eV 1)]) (eK (.int 6)))) (eOp D.add (eK (.int 1)) (eOp D.mod (eCall f__law_cell [(eV 0), (eOp D.add (eV 1) (eK (.int 1)))]) (eK (.int 5))))) (sSeq (sSetF 4 (eLst [])) (sSeq (sFor [5, 6, 7, 8, 9] (gOne 5) (iBf rg1 [(eV 3)]) (sFor [6, 7, 8, 9] (gOne 6) (iBf rg1 [(eV 2)]) (sSeq (sSet 7 (eOp D.idx (eLst [(eK (.str "e")), (eK (.str "w"))]) (eOp D.mod (eV 5) (eK (.int 2))))) (sSeq (sIf (tOf (eOp D.eq (eV 6) (eOp D.idx (eLst [(eOp D.sub (eV 2) (eK (.int 1))), (eK (.int 0))]) (eOp D.mod (eV 5) (eK (.int 2)))))) (sSet 7 (eK (.str "s"))) (fun ρ => Out.nx ρ)) (sSeq (sSet 8 (eCall f__law_seed [(eOp D.add (eCall f__law_cell [(eV 0), (eOp D.add (eV 1) (eK (.int 2)))]) (eOp D.mul (eK (.int 41)) (eOp D.add (eOp D.mul (eV 5) (eV 2)) (eV 6)))), (eV 6)])) (sSeq (sSet 9 (eCall f__law_cell_of [(eV 8), (eV 7)])) (sSeq (sIf (tAndM (tOf (eOp D.eq (eOp D.mod (eCall f__law_cell [(eV 0), (eOp D.add (eV 1) (eK (.int 3)))]) (eK (.int 3))) (eK (.int 0)))) (tOf (eOp D.gt (eOp D.mod (eOp D.fdiv (eV 8) (eK (.int 23))) (eK (.int 5))) (eK (.int 0))))) (sSet 9 (eTup [(eK (.str "belt")), (eV 7)])) (fun ρ => Out.nx ρ)) (sApp 4 (eV 9))))))))) (sSeq (sIf (tOf (eOp D.eq (eOp D.mod (eCall f__law_cell [(eV 0), (eOp D.add (eV 1) (eK (.int 3)))]) (eK (.int 2))) (eK (.int 0)))) (sSeq (sSub 4 (eK (.int 0)) (eTup [(eK (.str "well")), (eK (.str "e")), (eK (.str "a")), (eOp D.add (eK (.int 1)) (eOp D.mod (eOp D.fdiv (eCall f__law_cell [(eV 0), (eOp D.add (eV 1) (eK (.int 3)))]) (eK (.int 2))) (eK (.int 3))))])) (sSub 4 (eNeg (eK (.int 1))) (eTup [(eK (.str "end"))]))) (fun ρ => Out.nx ρ)) (sRet (eTup [(eV 2), (eV 3), (eBf bTuple [(eB 4)])]))))))
def f__law_floor : List D → R D := runM 10 b__law_floor
theorem ok__law_floor (T : Txt K w mg) (F : FD K "_law_floor" s__law_floor) (hm : mg "_law_floor" = some (.ref (He.fAd K ("_law_floor", none)))) (G__law_cell : Fn K mg P w base "_law_cell" 2 1 f__law_cell) (G__law_cell_of : Fn K mg P w base "_law_cell_of" 2 2 f__law_cell_of) (G__law_seed : Fn K mg P w base "_law_seed" 2 1 f__law_seed) : Fn K mg P w base "_law_floor" 2 3 f__law_floor := by
  obtain ⟨fd, F⟩ := F
  have SC := sc__law_floor
  exact fn_mk (N := ["_law_script", "_law_first", "_law_wide", "_law_high", "_law_cells", "_law_down", "_law_across", "_law_side", "_law_seed_here", "_law_thing"]) (ps := ["_law_script", "_law_first"]) F hm sc__law_floor rfl (fun _ _ _ _ _ _ us hl => match us, hl with | [_, _], _ => rfl) fun cdv A outer s H E F0 hr tk hp => (sm_cons (sm_par2 (i := 2) (j := 3) rfl SC.nd rfl rfl (by decide) rfl rfl (am_cons (em_bin opm_add (PEm.bo em_int) (PEm.bo (em_bin opm_mod (PEm.bo (em_call G__law_cell hr (by decide) tk rfl (am_cons (em_v 0 rfl (.inl rfl)) (am_cons (em_v 1 rfl (.inl rfl)) am_nil)))) (PEm.bo em_int)))) (am_cons (em_bin opm_add (PEm.bo em_int) (PEm.bo (em_bin opm_mod (PEm.bo (em_call G__law_cell hr (by decide) tk rfl (am_cons (em_v 0 rfl (.inl rfl)) (am_cons (em_bin opm_add (PEm.bo (em_v 1 rfl (.inl rfl))) (PEm.bo em_int)) am_nil)))) (PEm.bo em_int)))) am_nil)) rfl) (sm_cons (sm_setF (i := 4) SC.nd rfl (.inl rfl) (fm_lst am_nil)) (sm_cons (sm_for hp rfl (im_range1 rfl T.m_range (ab_cons (PEm.bo (em_v 3 rfl (.inl rfl))) ab_nil)) (gok_one 5) (pg_name (i := 5) SC.nd rfl (.inl rfl)) (fun _ => (sm_one (sm_for hp rfl (im_range1 rfl T.m_range (ab_cons (PEm.bo (em_v 2 rfl (.inl rfl))) ab_nil)) (gok_one 6) (pg_name (i := 6) SC.nd rfl (.inl rfl)) (fun _ => (sm_cons (sm_set (i := 7) SC.nd rfl (.inl rfl) (em_idx (hu65 hr) (PFm.bo (fm_lst (am_cons em_str (am_cons em_str am_nil)))) (PEm.bo (em_bin opm_mod (PEm.bo (em_v 5 rfl (.inl rfl))) (PEm.bo em_int))))) (sm_cons (sm_if (tm_cmp (opm_eq hr.units) (PEm.bo (em_v 6 rfl (.inl rfl))) (PEm.bo (em_idx (hu65 hr) (PFm.bo (fm_lst (am_cons (em_bin opm_sub (PEm.bo (em_v 2 rfl (.inl rfl))) (PEm.bo em_int)) (am_cons em_int am_nil)))) (PEm.bo (em_bin opm_mod (PEm.bo (em_v 5 rfl (.inl rfl))) (PEm.bo em_int))))) (nomark _)) (sm_one (sm_set (i := 7) SC.nd rfl (.inl rfl) em_str)) sm_nil) (sm_cons (sm_set (i := 8) SC.nd rfl (.inl rfl) (em_call G__law_seed hr (by decide) tk rfl (am_cons (em_bin opm_add (PEm.bo (em_call G__law_cell hr (by decide) tk rfl (am_cons (em_v 0 rfl (.inl rfl)) (am_cons (em_bin opm_add (PEm.bo (em_v 1 rfl (.inl rfl))) (PEm.bo em_int)) am_nil)))) (PEm.bo (em_bin opm_mul (PEm.bo em_int) (PEm.bo (em_bin opm_add (PEm.bo (em_bin opm_mul (PEm.bo (em_v 5 rfl (.inl rfl))) (PEm.bo (em_v 2 rfl (.inl rfl))))) (PEm.bo (em_v 6 rfl (.inl rfl)))))))) (am_cons (em_v 6 rfl (.inl rfl)) am_nil)))) (sm_cons (sm_set (i := 9) SC.nd rfl (.inl rfl) (em_call G__law_cell_of hr (by decide) tk rfl (am_cons (em_v 8 rfl (.inl rfl)) (am_cons (em_v 7 rfl (.inl rfl)) am_nil)))) (sm_cons (sm_if (PWm.t (wm_and (tm_cmp (opm_eq hr.units) (PEm.bo (em_bin opm_mod (PEm.bo (em_call G__law_cell hr (by decide) tk rfl (am_cons (em_v 0 rfl (.inl rfl)) (am_cons (em_bin opm_add (PEm.bo (em_v 1 rfl (.inl rfl))) (PEm.bo em_int)) am_nil)))) (PEm.bo em_int))) (PEm.bo em_int) (nomark _)) (wm_and1 (tm_cmp opm_gt (PEm.bo (em_bin opm_mod (PEm.bo (em_bin opm_fdiv (PEm.bo (em_v 8 rfl (.inl rfl))) (PEm.bo em_int))) (PEm.bo em_int))) (PEm.bo em_int) (nomark _))))) (sm_one (sm_set (i := 9) SC.nd rfl (.inl rfl) (em_tup (am_cons em_str (am_cons (em_v 7 rfl (.inl rfl)) am_nil))))) sm_nil) (sm_one (sm_append 4 (em_v 9 rfl (.inl rfl)) rfl (.inl rfl))))))))))))) (sm_cons (sm_if (tm_cmp (opm_eq hr.units) (PEm.bo (em_bin opm_mod (PEm.bo (em_call G__law_cell hr (by decide) tk rfl (am_cons (em_v 0 rfl (.inl rfl)) (am_cons (em_bin opm_add (PEm.bo (em_v 1 rfl (.inl rfl))) (PEm.bo em_int)) am_nil)))) (PEm.bo em_int))) (PEm.bo em_int) (nomark _)) (sm_cons (sm_sub (i := 4) (hu65 hr) (em_tup (am_cons em_str (am_cons em_str (am_cons em_str (am_cons (em_bin opm_add (PEm.bo em_int) (PEm.bo (em_bin opm_mod (PEm.bo (em_bin opm_fdiv (PEm.bo (em_call G__law_cell hr (by decide) tk rfl (am_cons (em_v 0 rfl (.inl rfl)) (am_cons (em_bin opm_add (PEm.bo (em_v 1 rfl (.inl rfl))) (PEm.bo em_int)) am_nil)))) (PEm.bo em_int))) (PEm.bo em_int)))) am_nil))))) (PEm.bo em_int) rfl (.inl rfl)) (sm_one (sm_sub (i := 4) (hu65 hr) (em_tup (am_cons em_str am_nil)) (PEm.bo (em_neg (PEm.bo em_int))) rfl (.inl rfl)))) sm_nil) (sm_one (sm_ret (em_tup (am_cons (em_v 2 rfl (.inl rfl)) (am_cons (em_v 3 rfl (.inl rfl)) (am_cons (em_ty cm_tuple rfl T.m_tuple (by decide +kernel) (ab_cons (bm_v 4 rfl (.inl rfl)) ab_nil)) am_nil))))))))))
/-! ### is_within -/
theorem sc_is_within : FnScope ["thing", "low", "high"] ["thing", "low", "high"] (defScope s_is_within) := ⟨rfl, rfl, rfl, by decide +kernel, rfl, by decide +kernel, by decide +kernel⟩
def b_is_within : SM := (sRet (eAnd (eIsi "int" (eV 0)) (eAnd (eNot (eIsi "bool" (eV 0))) (eChain D.le D.le (eV 1) (eV 0) (eV 2)))))
def f_is_within : List D → R D := runM 3 b_is_within
theorem ok_is_within (T : Txt K w mg) (F : FD K "is_within" s_is_within) (hm : mg "is_within" = some (.ref (He.fAd K ("is_within", none))))  : Fn K mg P w base "is_within" 3 1 f_is_within := by
  obtain ⟨fd, F⟩ := F
  have SC := sc_is_within
  exact fn_mk (N := ["thing", "low", "high"]) (ps := ["thing", "low", "high"]) F hm sc_is_within rfl (fun _ _ _ _ _ _ us hl => match us, hl with | [_, _, _], _ => rfl) fun cdv A outer s H E F0 hr tk hp => (sm_one (sm_ret (em_and (em_isi (U := "int") kit_int rfl T.m_isinstance rfl T.m_int (by decide +kernel) (PEm.bo (em_v 0 rfl (.inl rfl)))) (em_and (em_not (PEm.bo (em_isi (U := "bool") kit_bool rfl T.m_isinstance rfl T.m_bool (by decide +kernel) (PEm.bo (em_v 0 rfl (.inl rfl)))))) (em_one (em_chain opm_le opm_le (PEm.bo (em_v 1 rfl (.inl rfl))) (PEm.bo (em_v 0 rfl (.inl rfl))) (PEm.bo (em_v 2 rfl (.inl rfl)))))))))
/-! ### is_side -/
theorem sc_is_side : FnScope ["thing"] ["thing"] (defScope s_is_side) := ⟨rfl, rfl, rfl, by decide +kernel, rfl, by decide +kernel, by decide +kernel⟩
def b_is_side : SM := (sRet (eAnd (eIsi "str" (eV 0)) (eInK false [.str "n", .str "e", .str "s", .str "w"] (eV 0))))
def f_is_side : List D → R D := runM 1 b_is_side
theorem ok_is_side (T : Txt K w mg) (F : FD K "is_side" s_is_side) (hm : mg "is_side" = some (.ref (He.fAd K ("is_side", none))))  : Fn K mg P w base "is_side" 1 1 f_is_side := by
  obtain ⟨fd, F⟩ := F
  have SC := sc_is_side
  exact fn_mk (N := ["thing"]) (ps := ["thing"]) F hm sc_is_side rfl (fun _ _ _ _ _ _ us hl => match us, hl with | [_], _ => rfl) fun cdv A outer s H E F0 hr tk hp => (sm_one (sm_ret (em_and (em_isi (U := "str") kit_str rfl T.m_isinstance rfl T.m_str (by decide +kernel) (PEm.bo (em_v 0 rfl (.inl rfl)))) (em_one (em_inK (PEm.bo (em_v 0 rfl (.inl rfl))) rfl T.c_SIDES)))))
/-! ### is_kind -/
theorem sc_is_kind : FnScope ["thing"] ["thing"] (defScope s_is_kind) := ⟨rfl, rfl, rfl, by decide +kernel, rfl, by decide +kernel, by decide +kernel⟩
def b_is_kind : SM := (sRet (eAnd (eIsi "str" (eV 0)) (eAnd (eOp D.eq (eBf bLen [(eV 0)]) (eK (.int 1))) (eOp D.isIn (eV 0) (eK (.str "abc"))))))
def f_is_kind : List D → R D := runM 1 b_is_kind
theorem ok_is_kind (T : Txt K w mg) (F : FD K "is_kind" s_is_kind) (hm : mg "is_kind" = some (.ref (He.fAd K ("is_kind", none))))  : Fn K mg P w base "is_kind" 1 1 f_is_kind := by
  obtain ⟨fd, F⟩ := F
  have SC := sc_is_kind
  exact fn_mk (N := ["thing"]) (ps := ["thing"]) F hm sc_is_kind rfl (fun _ _ _ _ _ _ us hl => match us, hl with | [_], _ => rfl) fun cdv A outer s H E F0 hr tk hp => (sm_one (sm_ret (em_and (em_isi (U := "str") kit_str rfl T.m_isinstance rfl T.m_str (by decide +kernel) (PEm.bo (em_v 0 rfl (.inl rfl)))) (em_and (em_cmp (opm_eq hr.units) (PEm.bo (em_bf cm_len rfl T.m_len PySem.boot_len (ab_cons (PEm.bo (em_v 0 rfl (.inl rfl))) ab_nil))) (PEm.bo em_int) (nomark _)) (em_one (em_cmp (opm_in (hu65 hr)) (PEm.bo (em_v 0 rfl (.inl rfl))) (PEm.bo em_str) (by with_unfolding_all rfl)))))))
/-! ### is_cell -/
theorem sc_is_cell : FnScope ["thing"] ["thing"] (defScope s_is_cell) := ⟨rfl, rfl, rfl, by decide +kernel, rfl, by decide +kernel, by decide +kernel⟩
def b_is_cell : SM := (sSeq (sIf (tOrM (tNotM (tTru (eIsi "tuple" (eV 0)))) (tOrM (tNotM (tTru (eV 0))) (tNotM (tTru (eIsi "str" (eOp D.idx (eV 0) (eK (.int 0)))))))) (sRet (eK (.bl false))) (fun ρ => Out.nx ρ)) (sSeq (sIf (tOf (eOp D.isIn (eOp D.idx (eV 0) (eK (.int 0))) (eTup [(eK (.str "wall")), (eK (.str "end"))]))) (sRet (eOp D.eq (eBf bLen [(eV 0)]) (eK (.int 1)))) (fun ρ => Out.nx ρ)) (sSeq (sIf (tOf (eOp D.eq (eOp D.idx (eV 0) (eK (.int 0))) (eK (.str "belt")))) (sRet (eAnd (eOp D.eq (eBf bLen [(eV 0)]) (eK (.int 2))) (eCall f_is_side [(eOp D.idx (eV 0) (eK (.int 1)))]))) (fun ρ => Out.nx ρ)) (sSeq (sIf (tOf (eOp D.eq (eOp D.idx (eV 0) (eK (.int 0))) (eK (.str "parter")))) (sRet (eAnd (eOp D.eq (eBf bLen [(eV 0)]) (eK (.int 3))) (eAnd (eCall f_is_side [(eOp D.idx (eV 0) (eK (.int 1)))]) (eAnd (eCall f_is_side [(eOp D.idx (eV 0) (eK (.int 2)))]) (eOp D.ne (eOp D.idx (eV 0) (eK (.int 1))) (eOp D.idx (eV 0) (eK (.int 2)))))))) (fun ρ => Out.nx ρ)) (sSeq (sIf (tOrM (tOf (eOp D.ne (eOp D.idx (eV 0) (eK (.int 0))) (eK (.str "well")))) (tOf (eOp D.ne (eBf bLen [(eV 0)]) (eK (.int 4))))) (sRet (eK (.bl false))) (fun ρ => Out.nx ρ)) (sRet (eAnd (eCall f_is_side [(eOp D.idx (eV 0) (eK (.int 1)))]) (eAnd (eCall f_is_kind [(eOp D.idx (eV 0) (eK (.int 2)))]) (eCall f_is_within [(eOp D.idx (eV 0) (eK (.int 3))), (eK (.int 1)), (eK (.int 5))])))))))))
def f_is_cell : List D → R D := runM 1 b_is_cell
theorem ok_is_cell (T : Txt K w mg) (F : FD K "is_cell" s_is_cell) (hm : mg "is_cell" = some (.ref (He.fAd K ("is_cell", none)))) (G_is_kind : Fn K mg P w base "is_kind" 1 1 f_is_kind) (G_is_side : Fn K mg P w base "is_side" 1 1 f_is_side) (G_is_within : Fn K mg P w base "is_within" 3 1 f_is_within) : Fn K mg P w base "is_cell" 1 2 f_is_cell := by
  obtain ⟨fd, F⟩ := F
  have SC := sc_is_cell
  exact fn_mk (N := ["thing"]) (ps := ["thing"]) F hm sc_is_cell rfl (fun _ _ _ _ _ _ us hl => match us, hl with | [_], _ => rfl) fun cdv A outer s H E F0 hr tk hp => (sm_cons (sm_if (PWm.t (wm_or (tm_not (tm_tru (PEm.bo (em_isi (U := "tuple") kit_tuple rfl T.m_isinstance rfl T.m_tuple (by decide +kernel) (PEm.bo (em_v 0 rfl (.inl rfl))))))) (wm_or (tm_not (tm_tru (PEm.bo (em_v 0 rfl (.inl rfl))))) (wm_or1 (tm_not (tm_tru (PEm.bo (em_isi (U := "str") kit_str rfl T.m_isinstance rfl T.m_str (by decide +kernel) (PEm.bo (em_idx (hu65 hr) (PEm.bo (em_v 0 rfl (.inl rfl))) (PEm.bo em_int))))))))))) (sm_one (sm_ret em_bl)) sm_nil) (sm_cons (sm_if (tm_cmp (opm_in (hu65 hr)) (PEm.bo (em_idx (hu65 hr) (PEm.bo (em_v 0 rfl (.inl rfl))) (PEm.bo em_int))) (PEm.bo (em_tup (am_cons em_str (am_cons em_str am_nil)))) (by with_unfolding_all rfl)) (sm_one (sm_ret (em_cmp (opm_eq hr.units) (PEm.bo (em_bf cm_len rfl T.m_len PySem.boot_len (ab_cons (PEm.bo (em_v 0 rfl (.inl rfl))) ab_nil))) (PEm.bo em_int) (nomark _)))) sm_nil) (sm_cons (sm_if (tm_cmp (opm_eq hr.units) (PEm.bo (em_idx (hu65 hr) (PEm.bo (em_v 0 rfl (.inl rfl))) (PEm.bo em_int))) (PEm.bo em_str) (nomark _)) (sm_one (sm_ret (em_and (em_cmp (opm_eq hr.units) (PEm.bo (em_bf cm_len rfl T.m_len PySem.boot_len (ab_cons (PEm.bo (em_v 0 rfl (.inl rfl))) ab_nil))) (PEm.bo em_int) (nomark _)) (em_one (em_call G_is_side hr (by decide) tk rfl (am_cons (em_idx (hu65 hr) (PEm.bo (em_v 0 rfl (.inl rfl))) (PEm.bo em_int)) am_nil)))))) sm_nil) (sm_cons (sm_if (tm_cmp (opm_eq hr.units) (PEm.bo (em_idx (hu65 hr) (PEm.bo (em_v 0 rfl (.inl rfl))) (PEm.bo em_int))) (PEm.bo em_str) (nomark _)) (sm_one (sm_ret (em_and (em_cmp (opm_eq hr.units) (PEm.bo (em_bf cm_len rfl T.m_len PySem.boot_len (ab_cons (PEm.bo (em_v 0 rfl (.inl rfl))) ab_nil))) (PEm.bo em_int) (nomark _)) (em_and (em_call G_is_side hr (by decide) tk rfl (am_cons (em_idx (hu65 hr) (PEm.bo (em_v 0 rfl (.inl rfl))) (PEm.bo em_int)) am_nil)) (em_and (em_call G_is_side hr (by decide) tk rfl (am_cons (em_idx (hu65 hr) (PEm.bo (em_v 0 rfl (.inl rfl))) (PEm.bo em_int)) am_nil)) (em_one (em_cmp (opm_ne hr.units) (PEm.bo (em_idx (hu65 hr) (PEm.bo (em_v 0 rfl (.inl rfl))) (PEm.bo em_int))) (PEm.bo (em_idx (hu65 hr) (PEm.bo (em_v 0 rfl (.inl rfl))) (PEm.bo em_int))) (nomark _)))))))) sm_nil) (sm_cons (sm_if (PWm.t (wm_or (tm_cmp (opm_ne hr.units) (PEm.bo (em_idx (hu65 hr) (PEm.bo (em_v 0 rfl (.inl rfl))) (PEm.bo em_int))) (PEm.bo em_str) (nomark _)) (wm_or1 (tm_cmp (opm_ne hr.units) (PEm.bo (em_bf cm_len rfl T.m_len PySem.boot_len (ab_cons (PEm.bo (em_v 0 rfl (.inl rfl))) ab_nil))) (PEm.bo em_int) (nomark _))))) (sm_one (sm_ret em_bl)) sm_nil) (sm_one (sm_ret (em_and (em_call G_is_side hr (by decide) tk rfl (am_cons (em_idx (hu65 hr) (PEm.bo (em_v 0 rfl (.inl rfl))) (PEm.bo em_int)) am_nil)) (em_and (em_call G_is_kind hr (by decide) tk rfl (am_cons (em_idx (hu65 hr) (PEm.bo (em_v 0 rfl (.inl rfl))) (PEm.bo em_int)) am_nil)) (em_one (em_call G_is_within hr (by decide) tk rfl (am_cons (em_idx (hu65 hr) (PEm.bo (em_v 0 rfl (.inl rfl))) (PEm.bo em_int)) (am_cons em_int (am_cons (em_gint rfl T.c_MOST_WAIT) am_nil))))))))))))))
/-! ### is_floor -/
theorem sc_is_floor : FnScope ["thing", "one"] ["thing"] (defScope s_is_floor) := ⟨rfl, rfl, rfl, by decide +kernel, rfl, by decide +kernel, by decide +kernel⟩
def b_is_floor : SM := (sSeq (sIf (tOrM (tNotM (tTru (eIsi "tuple" (eV 0)))) (tOrM (tOf (eOp D.ne (eBf bLen [(eV 0)]) (eK (.int 3)))) (tNotM (tTru (eCall f_is_within [(eOp D.idx (eV 0) (eK (.int 0))), (eK (.int 1)), (eK (.int 6))]))))) (sRet (eK (.bl false))) (fun ρ => Out.nx ρ)) (sSeq (sIf (tOrM (tNotM (tTru (eCall f_is_within [(eOp D.idx (eV 0) (eK (.int 1))), (eK (.int 1)), (eK (.int 5))]))) (tNotM (tTru (eIsi "tuple" (eOp D.idx (eV 0) (eK (.int 2))))))) (sRet (eK (.bl false))) (fun ρ => Out.nx ρ)) (sRet (eAnd (eOp D.eq (eBf bLen [(eOp D.idx (eV 0) (eK (.int 2)))]) (eOp D.mul (eOp D.idx (eV 0) (eK (.int 0))) (eOp D.idx (eV 0) (eK (.int 1))))) (eNot (eLc [1] (gOne 1) (iV (eOp D.idx (eV 0) (eK (.int 2)))) (tNotM (tTru (eCall f_is_cell [(eV 1)]))) (eV 1)))))))
def f_is_floor : List D → R D := runM 2 b_is_floor
theorem ok_is_floor (T : Txt K w mg) (F : FD K "is_floor" s_is_floor) (hm : mg "is_floor" = some (.ref (He.fAd K ("is_floor", none)))) (G_is_cell : Fn K mg P w base "is_cell" 1 2 f_is_cell) (G_is_within : Fn K mg P w base "is_within" 3 1 f_is_within) : Fn K mg P w base "is_floor" 1 3 f_is_floor := by
  obtain ⟨fd, F⟩ := F
  have SC := sc_is_floor
  exact fn_mk (N := ["thing", "one"]) (ps := ["thing"]) F hm sc_is_floor rfl (fun _ _ _ _ _ _ us hl => match us, hl with | [_], _ => rfl) fun cdv A outer s H E F0 hr tk hp => (sm_cons (sm_if (PWm.t (wm_or (tm_not (tm_tru (PEm.bo (em_isi (U := "tuple") kit_tuple rfl T.m_isinstance rfl T.m_tuple (by decide +kernel) (PEm.bo (em_v 0 rfl (.inl rfl))))))) (wm_or (tm_cmp (opm_ne hr.units) (PEm.bo (em_bf cm_len rfl T.m_len PySem.boot_len (ab_cons (PEm.bo (em_v 0 rfl (.inl rfl))) ab_nil))) (PEm.bo em_int) (nomark _)) (wm_or1 (tm_not (tm_tru (PEm.bo (em_call G_is_within hr (by decide) tk rfl (am_cons (em_idx (hu65 hr) (PEm.bo (em_v 0 rfl (.inl rfl))) (PEm.bo em_int)) (am_cons em_int (am_cons (em_gint rfl T.c_MOST_WIDE) am_nil))))))))))) (sm_one (sm_ret em_bl)) sm_nil) (sm_cons (sm_if (PWm.t (wm_or (tm_not (tm_tru (PEm.bo (em_call G_is_within hr (by decide) tk rfl (am_cons (em_idx (hu65 hr) (PEm.bo (em_v 0 rfl (.inl rfl))) (PEm.bo em_int)) (am_cons em_int (am_cons (em_gint rfl T.c_MOST_HIGH) am_nil))))))) (wm_or1 (tm_not (tm_tru (PEm.bo (em_isi (U := "tuple") kit_tuple rfl T.m_isinstance rfl T.m_tuple (by decide +kernel) (PEm.bo (em_idx (hu65 hr) (PEm.bo (em_v 0 rfl (.inl rfl))) (PEm.bo em_int)))))))))) (sm_one (sm_ret em_bl)) sm_nil) (sm_one (sm_ret (em_and (em_cmp (opm_eq hr.units) (PEm.bo (em_bf cm_len rfl T.m_len PySem.boot_len (ab_cons (PEm.bo (em_idx (hu65 hr) (PEm.bo (em_v 0 rfl (.inl rfl))) (PEm.bo em_int))) ab_nil))) (PEm.bo (em_bin opm_mul (PEm.bo (em_idx (hu65 hr) (PEm.bo (em_v 0 rfl (.inl rfl))) (PEm.bo em_int))) (PEm.bo (em_idx (hu65 hr) (PEm.bo (em_v 0 rfl (.inl rfl))) (PEm.bo em_int))))) (nomark _)) (em_one (em_not (PFm.bo (fm_lc (own := [("one", 1)]) rfl SC.nd (im_any (em_idx (hu65 hr) (PEm.bo (em_v 0 rfl (.inl rfl))) (PEm.bo em_int))) (blkOk_by (own := [("one", 1)]) (by with_unfolding_all rfl)) (gok_one 1) (fun _ _ _ _ _ => (pg_name (i := 1) SC.nd rfl (.inl rfl))) (fun _ _ _ _ _ => (tsm_one (tm_not (tm_tru (PEm.bo (em_call G_is_cell hr (by decide) takes0 rfl (am_cons (em_v 1 rfl (.inl rfl)) am_nil))))))) (fun _ _ _ _ _ => (em_v 1 rfl (.inl rfl))))))))))))
/-! ### look -/
theorem sc_look : FnScope ["floor"] ["floor"] (defScope s_look) := ⟨rfl, rfl, rfl, by decide +kernel, rfl, by decide +kernel, by decide +kernel⟩
def b_look : SM := (sIf (tNotM (tTru (eCall f_is_floor [(eV 0)]))) (fun ρ => Out.rs "BadFloor" ρ) (fun ρ => Out.nx ρ))
def f_look : List D → R D := runM 1 b_look
theorem ok_look (T : Txt K w mg) (F : FD K "look" s_look) (hm : mg "look" = some (.ref (He.fAd K ("look", none)))) (G_is_floor : Fn K mg P w base "is_floor" 1 3 f_is_floor) : Fn K mg P w base "look" 1 4 f_look := by
  obtain ⟨fd, F⟩ := F
  have SC := sc_look
  exact fn_mk (N := ["floor"]) (ps := ["floor"]) F hm sc_look rfl (fun _ _ _ _ _ _ us hl => match us, hl with | [_], _ => rfl) fun cdv A outer s H E F0 hr tk hp => (sm_one (sm_if (tm_not (tm_tru (PEm.bo (em_call G_is_floor hr (by decide) tk rfl (am_cons (em_v 0 rfl (.inl rfl)) am_nil))))) (sm_one (sm_raiseX T.x_BadFloor rfl tk rfl)) sm_nil))
/-! ### led -/
theorem sc_led : FnScope ["thing", "book", "side"] ["thing", "book"] (defScope s_led) := ⟨rfl, rfl, rfl, by decide +kernel, rfl, by decide +kernel, by decide +kernel⟩
def b_led : SM := (sSeq (sIf (tOf (eOp D.isIn (eOp D.idx (eV 0) (eK (.int 0))) (eTup [(eK (.str "belt")), (eK (.str "parter"))]))) (sRet (eOp D.add (eSl (eV 0) none (some (eK (.int 1)))) (eBf bTuple [(eLc [2] (gOne 2) (iV (eSl (eV 0) (some (eK (.int 1))) none)) pYes (eOp D.idx (eV 1) (eV 2)))]))) (fun ρ => Out.nx ρ)) (sRet (eIf (tOf (eOp D.eq (eOp D.idx (eV 0) (eK (.int 0))) (eK (.str "well")))) (eOp D.add (eTup [(eOp D.idx (eV 0) (eK (.int 0))), (eOp D.idx (eV 1) (eOp D.idx (eV 0) (eK (.int 1))))]) (eSl (eV 0) (some (eK (.int 2))) none)) (eV 0))))
def f_led : List D → R D := runM 3 b_led
theorem ok_led (T : Txt K w mg) (F : FD K "led" s_led) (hm : mg "led" = some (.ref (He.fAd K ("led", none))))  : Fn K mg P w base "led" 2 1 f_led := by
  obtain ⟨fd, F⟩ := F
  have SC := sc_led
  exact fn_mk (N := ["thing", "book", "side"]) (ps := ["thing", "book"]) F hm sc_led rfl (fun _ _ _ _ _ _ us hl => match us, hl with | [_, _], _ => rfl) fun cdv A outer s H E F0 hr tk hp => (sm_cons (sm_if (tm_cmp (opm_in (hu65 hr)) (PEm.bo (em_idx (hu65 hr) (PEm.bo (em_v 0 rfl (.inl rfl))) (PEm.bo em_int))) (PEm.bo (em_tup (am_cons em_str (am_cons em_str am_nil)))) (by with_unfolding_all rfl)) (sm_one (sm_ret (em_bin opm_add (PEm.bo (em_sl (PEm.bo (em_v 0 rfl (.inl rfl))) om_none (om_some (PEm.bo em_int)))) (PEm.bo (em_ty cm_tuple rfl T.m_tuple (by decide +kernel) (ab_cons (PFm.bo (fm_lc (own := [("side", 2)]) rfl SC.nd (im_any (em_sl (PEm.bo (em_v 0 rfl (.inl rfl))) (om_some (PEm.bo em_int)) om_none)) (blkOk_by (own := [("side", 2)]) (by with_unfolding_all rfl)) (gok_one 2) (fun _ _ _ _ _ => (pg_name (i := 2) SC.nd rfl (.inl rfl))) (fun _ _ _ _ _ => tsm_nil) (fun _ _ _ _ _ => (em_idx (hu65 hr) (PEm.bo (em_v 1 rfl (.inr (.inl rfl)))) (PEm.bo (em_v 2 rfl (.inl rfl))))))) ab_nil)))))) sm_nil) (sm_one (sm_ret (em_if (tm_cmp (opm_eq hr.units) (PEm.bo (em_idx (hu65 hr) (PEm.bo (em_v 0 rfl (.inl rfl))) (PEm.bo em_int))) (PEm.bo em_str) (nomark _)) (em_bin opm_add (PEm.bo (em_tup (am_cons (em_idx (hu65 hr) (PEm.bo (em_v 0 rfl (.inl rfl))) (PEm.bo em_int)) (am_cons (em_idx (hu65 hr) (PEm.bo (em_v 1 rfl (.inr (.inl rfl)))) (PEm.bo (em_idx (hu65 hr) (PEm.bo (em_v 0 rfl (.inl rfl))) (PEm.bo em_int)))) am_nil)))) (PEm.bo (em_sl (PEm.bo (em_v 0 rfl (.inl rfl))) (om_some (PEm.bo em_int)) om_none))) (em_v 0 rfl (.inl rfl))))))
/-! ### mirrored -/
theorem sc_mirrored : FnScope ["floor", "wide", "high", "cells", "found", "down", "thing"] ["floor"] (defScope s_mirrored) := ⟨rfl, rfl, rfl, by decide +kernel, rfl, by decide +kernel, by decide +kernel⟩
def b_mirrored : SM := (sSeq (sExpr (eCall f_look [(eV 0)])) (sSeq (sAsg (gTupM [1, 2, 3]) (eV 0)) (sSeq (sSetF 4 (eLst [])) (sSeq (sFor [5] (gOne 5) (iBf rg1 [(eV 2)]) (sExt 4 (eLc [6] (gOne 6) (iV (eRev (eSl (eV 3) (some (eOp D.mul (eV 5) (eV 1))) (some (eOp D.add (eOp D.mul (eV 5) (eV 1)) (eV 1)))))) pYes (eCall f_led [(eV 6), (eK (.dct false [(.str "n", .str "n"), (.str "e", .str "w"), (.str "s", .str "s"), (.str "w", .str "e")]))])))) (sRet (eTup [(eV 1), (eV 2), (eBf bTuple [(eB 4)])]))))))
def f_mirrored : List D → R D := runM 7 b_mirrored
theorem ok_mirrored (T : Txt K w mg) (F : FD K "mirrored" s_mirrored) (hm : mg "mirrored" = some (.ref (He.fAd K ("mirrored", none)))) (G_led : Fn K mg P w base "led" 2 1 f_led) (G_look : Fn K mg P w base "look" 1 4 f_look) : Fn K mg P w base "mirrored" 1 5 f_mirrored := by
  obtain ⟨fd, F⟩ := F
  have SC := sc_mirrored
  exact fn_mk (N := ["floor", "wide", "high", "cells", "found", "down", "thing"]) (ps := ["floor"]) F hm sc_mirrored rfl (fun _ _ _ _ _ _ us hl => match us, hl with | [_], _ => rfl) fun cdv A outer s H E F0 hr tk hp => (sm_cons (sm_expr (em_call G_look hr (by decide) tk rfl (am_cons (em_v 0 rfl (.inl rfl)) am_nil))) (sm_cons (sm_asg (em_v 0 rfl (.inl rfl)) (gok_tup [1, 2, 3]) (pg_tup rfl (pgs_cons (pg_name (i := 1) SC.nd rfl (.inl rfl)) (pgs_cons (pg_name (i := 2) SC.nd rfl (.inl rfl)) (pgs_cons (pg_name (i := 3) SC.nd rfl (.inl rfl)) pgs_nil))))) (sm_cons (sm_setF (i := 4) SC.nd rfl (.inl rfl) (fm_lst am_nil)) (sm_cons (sm_for hp rfl (im_range1 rfl T.m_range (ab_cons (PEm.bo (em_v 2 rfl (.inl rfl))) ab_nil)) (gok_one 5) (pg_name (i := 5) SC.nd rfl (.inl rfl)) (fun _ => (sm_one (sm_extend 4 (PFm.bo (fm_lc (own := [("thing", 6)]) rfl SC.nd (im_any (em_rev (PEm.bo (em_sl (PEm.bo (em_v 3 rfl (.inl rfl))) (om_some (PEm.bo (em_bin opm_mul (PEm.bo (em_v 5 rfl (.inl rfl))) (PEm.bo (em_v 1 rfl (.inl rfl)))))) (om_some (PEm.bo (em_bin opm_add (PEm.bo (em_bin opm_mul (PEm.bo (em_v 5 rfl (.inl rfl))) (PEm.bo (em_v 1 rfl (.inl rfl))))) (PEm.bo (em_v 1 rfl (.inl rfl)))))))))) (blkOk_by (own := [("thing", 6)]) (by with_unfolding_all rfl)) (gok_one 6) (fun _ _ _ _ _ => (pg_name (i := 6) SC.nd rfl (.inl rfl))) (fun _ _ _ _ _ => tsm_nil) (fun _ _ _ _ _ => (em_call G_led hr (by decide) takes0 rfl (am_cons (em_v 6 rfl (.inl rfl)) (am_cons (PFm.em (fm_gcopy (kvs := [("n", .str "n"), ("e", .str "w"), ("s", .str "s"), ("w", .str "e")]) rfl rfl T.m_dict (by decide +kernel) rfl T.d_MIRROR)) am_nil)))))) rfl (.inl rfl))))) (sm_one (sm_ret (em_tup (am_cons (em_v 1 rfl (.inl rfl)) (am_cons (em_v 2 rfl (.inl rfl)) (am_cons (em_ty cm_tuple rfl T.m_tuple (by decide +kernel) (ab_cons (bm_v 4 rfl (.inl rfl)) ab_nil)) am_nil))))))))))
/-! ### _law_led -/
theorem sc__law_led : FnScope ["_law_thing", "_law_sides", "_law_book", "_law_side"] ["_law_thing", "_law_sides"] (defScope s__law_led) := ⟨rfl, rfl, rfl, by decide +kernel, rfl, by decide +kernel, by decide +kernel⟩
def b__law_led : SM := (sSeq (sSet 2 (eOp D.dz (eK (.str "nesw")) (eV 1))) (sSeq (sIf (tOf (eOp D.eq (eOp D.idx (eV 0) (eK (.int 0))) (eK (.str "well")))) (sRet (eOp D.add (eTup [(eK (.str "well")), (eOp D.idx (eV 2) (eOp D.idx (eV 0) (eK (.int 1))))]) (eSl (eV 0) (some (eK (.int 2))) none))) (fun ρ => Out.nx ρ)) (sRet (eOp D.add (eSl (eV 0) none (some (eK (.int 1)))) (eBf bTuple [(eLc [3] (gOne 3) (iV (eSl (eV 0) (some (eK (.int 1))) none)) pYes (eOp D.idx (eV 2) (eV 3)))])))))
def f__law_led : List D → R D := runM 4 b__law_led
theorem ok__law_led (T : Txt K w mg) (F : FD K "_law_led" s__law_led) (hm : mg "_law_led" = some (.ref (He.fAd K ("_law_led", none))))  : Fn K mg P w base "_law_led" 2 1 f__law_led := by
  obtain ⟨fd, F⟩ := F
  have SC := sc__law_led
  exact fn_mk (N := ["_law_thing", "_law_sides", "_law_book", "_law_side"]) (ps := ["_law_thing", "_law_sides"]) F hm sc__law_led rfl (fun _ _ _ _ _ _ us hl => match us, hl with | [_, _], _ => rfl) fun cdv A outer s H E F0 hr tk hp => (sm_cons (sm_set (i := 2) SC.nd rfl (.inr rfl) (PFm.em (fm_dz rfl rfl T.m_dict rfl T.m_zip (PEm.bo em_str) (PEm.bo (em_v 1 rfl (.inl rfl)))))) (sm_cons (sm_if (tm_cmp (opm_eq hr.units) (PEm.bo (em_idx (hu65 hr) (PEm.bo (em_v 0 rfl (.inl rfl))) (PEm.bo em_int))) (PEm.bo em_str) (nomark _)) (sm_one (sm_ret (em_bin opm_add (PEm.bo (em_tup (am_cons em_str (am_cons (em_idx (hu65 hr) (PEm.bo (em_v 2 rfl (.inr (.inl rfl)))) (PEm.bo (em_idx (hu65 hr) (PEm.bo (em_v 0 rfl (.inl rfl))) (PEm.bo em_int)))) am_nil)))) (PEm.bo (em_sl (PEm.bo (em_v 0 rfl (.inl rfl))) (om_some (PEm.bo em_int)) om_none))))) sm_nil) (sm_one (sm_ret (em_bin opm_add (PEm.bo (em_sl (PEm.bo (em_v 0 rfl (.inl rfl))) om_none (om_some (PEm.bo em_int)))) (PEm.bo (em_ty cm_tuple rfl T.m_tuple (by decide +kernel) (ab_cons (PFm.bo (fm_lc (own := [("_law_side", 3)]) rfl SC.nd (im_any (em_sl (PEm.bo (em_v 0 rfl (.inl rfl))) (om_some (PEm.bo em_int)) om_none)) (blkOk_by (own := [("_law_side", 3)]) (by with_unfolding_all rfl)) (gok_one 3) (fun _ _ _ _ _ => (pg_name (i := 3) SC.nd rfl (.inl rfl))) (fun _ _ _ _ _ => tsm_nil) (fun _ _ _ _ _ => (em_idx (hu65 hr) (PEm.bo (em_v 2 rfl (.inr (.inl rfl)))) (PEm.bo (em_v 3 rfl (.inl rfl))))))) ab_nil))))))))
/-! ### _law_mirrored -/
theorem sc__law_mirrored : FnScope ["_law_floor_here", "_law_wide", "_law_high", "_law_cells", "_law_found", "_law_cell_here", "_law_spot"] ["_law_floor_here"] (defScope s__law_mirrored) := ⟨rfl, rfl, rfl, by decide +kernel, rfl, by decide +kernel, by decide +kernel⟩
def b__law_mirrored : SM := (sSeq (sAsg (gTupM [1, 2, 3]) (eV 0)) (sSeq (sSetF 4 (eLst [])) (sSeq (sFor [5, 6] (gOne 5) (iBf rg1 [(eOp D.mul (eV 1) (eV 2))]) (sSeq (sSet 6 (eOp D.sub (eOp D.sub (eOp D.add (eOp D.mul (eOp D.fdiv (eV 5) (eV 1)) (eV 1)) (eV 1)) (eK (.int 1))) (eOp D.mod (eV 5) (eV 1)))) (sApp 4 (eCall f__law_led [(eOp D.idx (eV 3) (eV 6)), (eK (.str "nwse"))])))) (sRet (eTup [(eV 1), (eV 2), (eBf bTuple [(eB 4)])])))))
def f__law_mirrored : List D → R D := runM 7 b__law_mirrored
theorem ok__law_mirrored (T : Txt K w mg) (F : FD K "_law_mirrored" s__law_mirrored) (hm : mg "_law_mirrored" = some (.ref (He.fAd K ("_law_mirrored", none)))) (G__law_led : Fn K mg P w base "_law_led" 2 1 f__law_led) : Fn K mg P w base "_law_mirrored" 1 2 f__law_mirrored := by
  obtain ⟨fd, F⟩ := F
  have SC := sc__law_mirrored
  exact fn_mk (N := ["_law_floor_here", "_law_wide", "_law_high", "_law_cells", "_law_found", "_law_cell_here", "_law_spot"]) (ps := ["_law_floor_here"]) F hm sc__law_mirrored rfl (fun _ _ _ _ _ _ us hl => match us, hl with | [_], _ => rfl) fun cdv A outer s H E F0 hr tk hp => (sm_cons (sm_asg (em_v 0 rfl (.inl rfl)) (gok_tup [1, 2, 3]) (pg_tup rfl (pgs_cons (pg_name (i := 1) SC.nd rfl (.inl rfl)) (pgs_cons (pg_name (i := 2) SC.nd rfl (.inl rfl)) (pgs_cons (pg_name (i := 3) SC.nd rfl (.inl rfl)) pgs_nil))))) (sm_cons (sm_setF (i := 4) SC.nd rfl (.inl rfl) (fm_lst am_nil)) (sm_cons (sm_for hp rfl (im_range1 rfl T.m_range (ab_cons (PEm.bo (em_bin opm_mul (PEm.bo (em_v 1 rfl (.inl rfl))) (PEm.bo (em_v 2 rfl (.inl rfl))))) ab_nil)) (gok_one 5) (pg_name (i := 5) SC.nd rfl (.inl rfl)) (fun _ => (sm_cons (sm_set (i := 6) SC.nd rfl (.inl rfl) (em_bin opm_sub (PEm.bo (em_bin opm_sub (PEm.bo (em_bin opm_add (PEm.bo (em_bin opm_mul (PEm.bo (em_bin opm_fdiv (PEm.bo (em_v 5 rfl (.inl rfl))) (PEm.bo (em_v 1 rfl (.inl rfl))))) (PEm.bo (em_v 1 rfl (.inl rfl))))) (PEm.bo (em_v 1 rfl (.inl rfl))))) (PEm.bo em_int))) (PEm.bo (em_bin opm_mod (PEm.bo (em_v 5 rfl (.inl rfl))) (PEm.bo (em_v 1 rfl (.inl rfl))))))) (sm_one (sm_append 4 (em_call G__law_led hr (by decide) tk rfl (am_cons (em_idx (hu65 hr) (PEm.bo (em_v 3 rfl (.inl rfl))) (PEm.bo (em_v 6 rfl (.inl rfl)))) (am_cons em_str am_nil))) rfl (.inl rfl)))))) (sm_one (sm_ret (em_tup (am_cons (em_v 1 rfl (.inl rfl)) (am_cons (em_v 2 rfl (.inl rfl)) (am_cons (em_ty cm_tuple rfl T.m_tuple (by decide +kernel) (ab_cons (bm_v 4 rfl (.inl rfl)) ab_nil)) am_nil)))))))))
/-! ### turned -/
theorem sc_turned : FnScope ["floor", "wide", "high", "cells", "found", "across", "down"] ["floor"] (defScope s_turned) := ⟨rfl, rfl, rfl, by decide +kernel, rfl, by decide +kernel, by decide +kernel⟩
def b_turned : SM := (sSeq (sExpr (eCall f_look [(eV 0)])) (sSeq (sAsg (gTupM [1, 2, 3]) (eV 0)) (sSeq (sIf (tOrM (tOf (eOp D.gt (eV 2) (eK (.int 6)))) (tOf (eOp D.gt (eV 1) (eK (.int 5))))) (fun ρ => Out.rs "BadCount" ρ) (fun ρ => Out.nx ρ)) (sSeq (sSetF 4 (eLst [])) (sSeq (sFor [5] (gOne 5) (iBf rg1 [(eV 1)]) (sExt 4 (eLc [6] (gOne 6) (iBf rg3 [(eOp D.sub (eV 2) (eK (.int 1))), (eNeg (eK (.int 1))), (eNeg (eK (.int 1)))]) pYes (eCall f_led [(eOp D.idx (eV 3) (eOp D.add (eOp D.mul (eV 6) (eV 1)) (eV 5))), (eK (.dct false [(.str "n", .str "e"), (.str "e", .str "s"), (.str "s", .str "w"), (.str "w", .str "n")]))])))) (sRet (eTup [(eV 2), (eV 1), (eBf bTuple [(eB 4)])])))))))
def f_turned : List D → R D := runM 7 b_turned
theorem ok_turned (T : Txt K w mg) (F : FD K "turned" s_turned) (hm : mg "turned" = some (.ref (He.fAd K ("turned", none)))) (G_led : Fn K mg P w base "led" 2 1 f_led) (G_look : Fn K mg P w base "look" 1 4 f_look) : Fn K mg P w base "turned" 1 5 f_turned := by
  obtain ⟨fd, F⟩ := F
  have SC := sc_turned
  exact fn_mk (N := ["floor", "wide", "high", "cells", "found", "across", "down"]) (ps := ["floor"]) F hm sc_turned rfl (fun _ _ _ _ _ _ us hl => match us, hl with | [_], _ => rfl) fun cdv A outer s H E F0 hr tk hp => (sm_cons (sm_expr (em_call G_look hr (by decide) tk rfl (am_cons (em_v 0 rfl (.inl rfl)) am_nil))) (sm_cons (sm_asg (em_v 0 rfl (.inl rfl)) (gok_tup [1, 2, 3]) (pg_tup rfl (pgs_cons (pg_name (i := 1) SC.nd rfl (.inr rfl)) (pgs_cons (pg_name (i := 2) SC.nd rfl (.inl rfl)) (pgs_cons (pg_name (i := 3) SC.nd rfl (.inr rfl)) pgs_nil))))) (sm_cons (sm_if (PWm.t (wm_or (tm_cmp opm_gt (PEm.bo (em_v 2 rfl (.inl rfl))) (PEm.bo (em_gint rfl T.c_MOST_WIDE)) (nomark _)) (wm_or1 (tm_cmp opm_gt (PEm.bo (em_v 1 rfl (.inr (.inl rfl)))) (PEm.bo (em_gint rfl T.c_MOST_HIGH)) (nomark _))))) (sm_one (sm_raiseX T.x_BadCount rfl tk rfl)) sm_nil) (sm_cons (sm_setF (i := 4) SC.nd rfl (.inl rfl) (fm_lst am_nil)) (sm_cons (sm_for hp rfl (im_range1 rfl T.m_range (ab_cons (PEm.bo (em_v 1 rfl (.inr (.inl rfl)))) ab_nil)) (gok_one 5) (pg_name (i := 5) SC.nd rfl (.inr rfl)) (fun _ => (sm_one (sm_extend 4 (PFm.bo (fm_lc (own := [("down", 6)]) rfl SC.nd (im_range3 rfl T.m_range (ab_cons (PEm.bo (em_bin opm_sub (PEm.bo (em_v 2 rfl (.inl rfl))) (PEm.bo em_int))) (ab_cons (PEm.bo (em_neg (PEm.bo em_int))) (ab_cons (PEm.bo (em_neg (PEm.bo em_int))) ab_nil)))) (blkOk_by (own := [("down", 6)]) (by with_unfolding_all rfl)) (gok_one 6) (fun _ _ _ _ _ => (pg_name (i := 6) SC.nd rfl (.inl rfl))) (fun _ _ _ _ _ => tsm_nil) (fun _ _ _ _ _ => (em_call G_led hr (by decide) takes0 rfl (am_cons (em_idx (hu65 hr) (PEm.bo (em_v 3 rfl (.inr (.inl rfl)))) (PEm.bo (em_bin opm_add (PEm.bo (em_bin opm_mul (PEm.bo (em_v 6 rfl (.inl rfl))) (PEm.bo (em_v 1 rfl (.inr (.inl rfl)))))) (PEm.bo (em_v 5 rfl (.inr (.inl rfl))))))) (am_cons (PFm.em (fm_gcopy (kvs := [("n", .str "e"), ("e", .str "s"), ("s", .str "w"), ("w", .str "n")]) rfl rfl T.m_dict (by decide +kernel) rfl T.d_RIGHT)) am_nil)))))) rfl (.inl rfl))))) (sm_one (sm_ret (em_tup (am_cons (em_v 2 rfl (.inl rfl)) (am_cons (em_v 1 rfl (.inr (.inl rfl))) (am_cons (em_ty cm_tuple rfl T.m_tuple (by decide +kernel) (ab_cons (bm_v 4 rfl (.inl rfl)) ab_nil)) am_nil)))))))))))
/-! ### beside_one -/
theorem sc_beside_one : FnScope ["floor", "other", "found", "down"] ["floor", "other"] (defScope s_beside_one) := ⟨rfl, rfl, rfl, by decide +kernel, rfl, by decide +kernel, by decide +kernel⟩
def b_beside_one : SM := (sSeq (sExpr (eCall f_look [(eV 0)])) (sSeq (sExpr (eCall f_look [(eV 1)])) (sSeq (sIf (tOrM (tOf (eOp D.ne (eOp D.idx (eV 0) (eK (.int 1))) (eOp D.idx (eV 1) (eK (.int 1))))) (tOf (eOp D.gt (eOp D.add (eOp D.idx (eV 0) (eK (.int 0))) (eOp D.idx (eV 1) (eK (.int 0)))) (eK (.int 6))))) (fun ρ => Out.rs "BadCount" ρ) (fun ρ => Out.nx ρ)) (sSeq (sSet 2 (eTup [])) (sSeq (sFor [3] (gOne 3) (iBf rg1 [(eOp D.idx (eV 0) (eK (.int 1)))]) (sSeq (sSet 2 (eOp D.add (eV 2) (eSl (eOp D.idx (eV 0) (eK (.int 2))) (some (eOp D.mul (eV 3) (eOp D.idx (eV 0) (eK (.int 0))))) (some (eOp D.add (eOp D.mul (eV 3) (eOp D.idx (eV 0) (eK (.int 0)))) (eOp D.idx (eV 0) (eK (.int 0)))))))) (sSet 2 (eOp D.add (eV 2) (eSl (eOp D.idx (eV 1) (eK (.int 2))) (some (eOp D.mul (eV 3) (eOp D.idx (eV 1) (eK (.int 0))))) (some (eOp D.add (eOp D.mul (eV 3) (eOp D.idx (eV 1) (eK (.int 0)))) (eOp D.idx (eV 1) (eK (.int 0)))))))))) (sRet (eTup [(eOp D.add (eOp D.idx (eV 0) (eK (.int 0))) (eOp D.idx (eV 1) (eK (.int 0)))), (eOp D.idx (eV 0) (eK (.int 1))), (eV 2)])))))))
def f_beside_one : List D → R D := runM 4 b_beside_one
theorem ok_beside_one (T : Txt K w mg) (F : FD K "beside_one" s_beside_one) (hm : mg "beside_one" = some (.ref (He.fAd K ("beside_one", none)))) (G_look : Fn K mg P w base "look" 1 4 f_look) : Fn K mg P w base "beside_one" 2 5 f_beside_one := by
  obtain ⟨fd, F⟩ := F
  have SC := sc_beside_one
  exact fn_mk (N := ["floor", "other", "found", "down"]) (ps := ["floor", "other"]) F hm sc_beside_one rfl (fun _ _ _ _ _ _ us hl => match us, hl with | [_, _], _ => rfl) fun cdv A outer s H E F0 hr tk hp => (sm_cons (sm_expr (em_call G_look hr (by decide) tk rfl (am_cons (em_v 0 rfl (.inl rfl)) am_nil))) (sm_cons (sm_expr (em_call G_look hr (by decide) tk rfl (am_cons (em_v 1 rfl (.inl rfl)) am_nil))) (sm_cons (sm_if (PWm.t (wm_or (tm_cmp (opm_ne hr.units) (PEm.bo (em_idx (hu65 hr) (PEm.bo (em_v 0 rfl (.inl rfl))) (PEm.bo em_int))) (PEm.bo (em_idx (hu65 hr) (PEm.bo (em_v 1 rfl (.inl rfl))) (PEm.bo em_int))) (nomark _)) (wm_or1 (tm_cmp opm_gt (PEm.bo (em_bin opm_add (PEm.bo (em_idx (hu65 hr) (PEm.bo (em_v 0 rfl (.inl rfl))) (PEm.bo em_int))) (PEm.bo (em_idx (hu65 hr) (PEm.bo (em_v 1 rfl (.inl rfl))) (PEm.bo em_int))))) (PEm.bo (em_gint rfl T.c_MOST_WIDE)) (nomark _))))) (sm_one (sm_raiseX T.x_BadCount rfl tk rfl)) sm_nil) (sm_cons (sm_set (i := 2) SC.nd rfl (.inl rfl) (em_tup am_nil)) (sm_cons (sm_for hp rfl (im_range1 rfl T.m_range (ab_cons (PEm.bo (em_idx (hu65 hr) (PEm.bo (em_v 0 rfl (.inl rfl))) (PEm.bo em_int))) ab_nil)) (gok_one 3) (pg_name (i := 3) SC.nd rfl (.inl rfl)) (fun _ => (sm_cons (sm_set (i := 2) SC.nd rfl (.inl rfl) (em_bin opm_add (PEm.bo (em_v 2 rfl (.inl rfl))) (PEm.bo (em_sl (PEm.bo (em_idx (hu65 hr) (PEm.bo (em_v 0 rfl (.inl rfl))) (PEm.bo em_int))) (om_some (PEm.bo (em_bin opm_mul (PEm.bo (em_v 3 rfl (.inl rfl))) (PEm.bo (em_idx (hu65 hr) (PEm.bo (em_v 0 rfl (.inl rfl))) (PEm.bo em_int)))))) (om_some (PEm.bo (em_bin opm_add (PEm.bo (em_bin opm_mul (PEm.bo (em_v 3 rfl (.inl rfl))) (PEm.bo (em_idx (hu65 hr) (PEm.bo (em_v 0 rfl (.inl rfl))) (PEm.bo em_int))))) (PEm.bo (em_idx (hu65 hr) (PEm.bo (em_v 0 rfl (.inl rfl))) (PEm.bo em_int)))))))))) (sm_one (sm_set (i := 2) SC.nd rfl (.inl rfl) (em_bin opm_add (PEm.bo (em_v 2 rfl (.inl rfl))) (PEm.bo (em_sl (PEm.bo (em_idx (hu65 hr) (PEm.bo (em_v 1 rfl (.inl rfl))) (PEm.bo em_int))) (om_some (PEm.bo (em_bin opm_mul (PEm.bo (em_v 3 rfl (.inl rfl))) (PEm.bo (em_idx (hu65 hr) (PEm.bo (em_v 1 rfl (.inl rfl))) (PEm.bo em_int)))))) (om_some (PEm.bo (em_bin opm_add (PEm.bo (em_bin opm_mul (PEm.bo (em_v 3 rfl (.inl rfl))) (PEm.bo (em_idx (hu65 hr) (PEm.bo (em_v 1 rfl (.inl rfl))) (PEm.bo em_int))))) (PEm.bo (em_idx (hu65 hr) (PEm.bo (em_v 1 rfl (.inl rfl))) (PEm.bo em_int)))))))))))))) (sm_one (sm_ret (em_tup (am_cons (em_bin opm_add (PEm.bo (em_idx (hu65 hr) (PEm.bo (em_v 0 rfl (.inl rfl))) (PEm.bo em_int))) (PEm.bo (em_idx (hu65 hr) (PEm.bo (em_v 1 rfl (.inl rfl))) (PEm.bo em_int)))) (am_cons (em_idx (hu65 hr) (PEm.bo (em_v 0 rfl (.inl rfl))) (PEm.bo em_int)) (am_cons (em_v 2 rfl (.inl rfl)) am_nil)))))))))))
/-! ### look_cell -/
theorem sc_look_cell : FnScope ["floor", "cell"] ["floor", "cell"] (defScope s_look_cell) := ⟨rfl, rfl, rfl, by decide +kernel, rfl, by decide +kernel, by decide +kernel⟩
def b_look_cell : SM := (sSeq (sExpr (eCall f_look [(eV 0)])) (sIf (tNotM (tTru (eCall f_is_within [(eV 1), (eK (.int 0)), (eOp D.sub (eBf bLen [(eOp D.idx (eV 0) (eK (.int 2)))]) (eK (.int 1)))]))) (fun ρ => Out.rs "BadCell" ρ) (fun ρ => Out.nx ρ)))
def f_look_cell : List D → R D := runM 2 b_look_cell
theorem ok_look_cell (T : Txt K w mg) (F : FD K "look_cell" s_look_cell) (hm : mg "look_cell" = some (.ref (He.fAd K ("look_cell", none)))) (G_is_within : Fn K mg P w base "is_within" 3 1 f_is_within) (G_look : Fn K mg P w base "look" 1 4 f_look) : Fn K mg P w base "look_cell" 2 5 f_look_cell := by
  obtain ⟨fd, F⟩ := F
  have SC := sc_look_cell
  exact fn_mk (N := ["floor", "cell"]) (ps := ["floor", "cell"]) F hm sc_look_cell rfl (fun _ _ _ _ _ _ us hl => match us, hl with | [_, _], _ => rfl) fun cdv A outer s H E F0 hr tk hp => (sm_cons (sm_expr (em_call G_look hr (by decide) tk rfl (am_cons (em_v 0 rfl (.inl rfl)) am_nil))) (sm_one (sm_if (tm_not (tm_tru (PEm.bo (em_call G_is_within hr (by decide) tk rfl (am_cons (em_v 1 rfl (.inl rfl)) (am_cons em_int (am_cons (em_bin opm_sub (PEm.bo (em_bf cm_len rfl T.m_len PySem.boot_len (ab_cons (PEm.bo (em_idx (hu65 hr) (PEm.bo (em_v 0 rfl (.inl rfl))) (PEm.bo em_int))) ab_nil))) (PEm.bo em_int)) am_nil))))))) (sm_one (sm_raiseX T.x_BadCell rfl tk rfl)) sm_nil)))
/-! ### put_cell -/
theorem sc_put_cell : FnScope ["floor", "cell", "thing"] ["floor", "cell", "thing"] (defScope s_put_cell) := ⟨rfl, rfl, rfl, by decide +kernel, rfl, by decide +kernel, by decide +kernel⟩
def b_put_cell : SM := (sSeq (sExpr (eCall f_look_cell [(eV 0), (eV 1)])) (sSeq (sIf (tNotM (tTru (eCall f_is_cell [(eV 2)]))) (fun ρ => Out.rs "BadCell" ρ) (fun ρ => Out.nx ρ)) (sRet (eTup [(eOp D.idx (eV 0) (eK (.int 0))), (eOp D.idx (eV 0) (eK (.int 1))), (eOp D.add (eOp D.add (eSl (eOp D.idx (eV 0) (eK (.int 2))) none (some (eV 1))) (eTup [(eV 2)])) (eSl (eOp D.idx (eV 0) (eK (.int 2))) (some (eOp D.add (eV 1) (eK (.int 1)))) none))]))))
def f_put_cell : List D → R D := runM 3 b_put_cell
theorem ok_put_cell (T : Txt K w mg) (F : FD K "put_cell" s_put_cell) (hm : mg "put_cell" = some (.ref (He.fAd K ("put_cell", none)))) (G_is_cell : Fn K mg P w base "is_cell" 1 2 f_is_cell) (G_look_cell : Fn K mg P w base "look_cell" 2 5 f_look_cell) : Fn K mg P w base "put_cell" 3 6 f_put_cell := by
  obtain ⟨fd, F⟩ := F
  have SC := sc_put_cell
  exact fn_mk (N := ["floor", "cell", "thing"]) (ps := ["floor", "cell", "thing"]) F hm sc_put_cell rfl (fun _ _ _ _ _ _ us hl => match us, hl with | [_, _, _], _ => rfl) fun cdv A outer s H E F0 hr tk hp => (sm_cons (sm_expr (em_call G_look_cell hr (by decide) tk rfl (am_cons (em_v 0 rfl (.inl rfl)) (am_cons (em_v 1 rfl (.inl rfl)) am_nil)))) (sm_cons (sm_if (tm_not (tm_tru (PEm.bo (em_call G_is_cell hr (by decide) tk rfl (am_cons (em_v 2 rfl (.inl rfl)) am_nil))))) (sm_one (sm_raiseX T.x_BadCell rfl tk rfl)) sm_nil) (sm_one (sm_ret (em_tup (am_cons (em_idx (hu65 hr) (PEm.bo (em_v 0 rfl (.inl rfl))) (PEm.bo em_int)) (am_cons (em_idx (hu65 hr) (PEm.bo (em_v 0 rfl (.inl rfl))) (PEm.bo em_int)) (am_cons (em_bin opm_add (PEm.bo (em_bin opm_add (PEm.bo (em_sl (PEm.bo (em_idx (hu65 hr) (PEm.bo (em_v 0 rfl (.inl rfl))) (PEm.bo em_int))) om_none (om_some (PEm.bo (em_v 1 rfl (.inl rfl)))))) (PEm.bo (em_tup (am_cons (em_v 2 rfl (.inl rfl)) am_nil))))) (PEm.bo (em_sl (PEm.bo (em_idx (hu65 hr) (PEm.bo (em_v 0 rfl (.inl rfl))) (PEm.bo em_int))) (om_some (PEm.bo (em_bin opm_add (PEm.bo (em_v 1 rfl (.inl rfl))) (PEm.bo em_int)))) om_none))) am_nil))))))))
/-! ### with_kinds -/
theorem sc_with_kinds : FnScope ["floor", "kinds", "found", "thing"] ["floor", "kinds"] (defScope s_with_kinds) := ⟨rfl, rfl, rfl, by decide +kernel, rfl, by decide +kernel, by decide +kernel⟩
def b_with_kinds : SM := (sSeq (sExpr (eCall f_look [(eV 0)])) (sSeq (sIf (tOrM (tNotM (tTru (eIsi "str" (eV 1)))) (tOf (eOp D.ne (eBf bSortT [(eV 1)]) (eLst [(eK (.str "a")), (eK (.str "b")), (eK (.str "c"))])))) (fun ρ => Out.rs "BadKinds" ρ) (fun ρ => Out.nx ρ)) (sSeq (sSetF 2 (eLst [])) (sSeq (sFor [3] (gOne 3) (iV (eOp D.idx (eV 0) (eK (.int 2)))) (sSeq (sIf (tOf (eOp D.eq (eOp D.idx (eV 3) (eK (.int 0))) (eK (.str "well")))) (sSet 3 (eTup [(eOp D.idx (eV 3) (eK (.int 0))), (eOp D.idx (eV 3) (eK (.int 1))), (eOp D.idx (eV 1) (eMet D.isStr mIndexS (eK (.str "abc")) [(eOp D.idx (eV 3) (eK (.int 2)))])), (eOp D.idx (eV 3) (eK (.int 3)))])) (fun ρ => Out.nx ρ)) (sApp 2 (eV 3)))) (sRet (eTup [(eOp D.idx (eV 0) (eK (.int 0))), (eOp D.idx (eV 0) (eK (.int 1))), (eBf bTuple [(eB 2)])]))))))
def f_with_kinds : List D → R D := runM 4 b_with_kinds
theorem ok_with_kinds (T : Txt K w mg) (F : FD K "with_kinds" s_with_kinds) (hm : mg "with_kinds" = some (.ref (He.fAd K ("with_kinds", none)))) (G_look : Fn K mg P w base "look" 1 4 f_look) : Fn K mg P w base "with_kinds" 2 5 f_with_kinds := by
  obtain ⟨fd, F⟩ := F
  have SC := sc_with_kinds
  exact fn_mk (N := ["floor", "kinds", "found", "thing"]) (ps := ["floor", "kinds"]) F hm sc_with_kinds rfl (fun _ _ _ _ _ _ us hl => match us, hl with | [_, _], _ => rfl) fun cdv A outer s H E F0 hr tk hp => (sm_cons (sm_expr (em_call G_look hr (by decide) tk rfl (am_cons (em_v 0 rfl (.inl rfl)) am_nil))) (sm_cons (sm_if (PWm.t (wm_or (tm_not (tm_tru (PEm.bo (em_isi (U := "str") kit_str rfl T.m_isinstance rfl T.m_str (by decide +kernel) (PEm.bo (em_v 1 rfl (.inl rfl))))))) (wm_or1 (tm_cmp (opm_ne hr.units) (PEm.bo (em_bf (cm_sortT rfl (hu65 hr)) rfl T.m_sorted (by decide +kernel) (ab_cons (PEm.bo (em_v 1 rfl (.inl rfl))) ab_nil))) (PFm.bo (fm_lst (am_cons em_str (am_cons em_str (am_cons em_str am_nil))))) (nomark _))))) (sm_one (sm_raiseX T.x_BadKinds rfl tk rfl)) sm_nil) (sm_cons (sm_setF (i := 2) SC.nd rfl (.inl rfl) (fm_lst am_nil)) (sm_cons (sm_for hp rfl (im_any (em_idx (hu65 hr) (PEm.bo (em_v 0 rfl (.inl rfl))) (PEm.bo em_int))) (gok_one 3) (pg_name (i := 3) SC.nd rfl (.inl rfl)) (fun _ => (sm_cons (sm_if (tm_cmp (opm_eq hr.units) (PEm.bo (em_idx (hu65 hr) (PEm.bo (em_v 3 rfl (.inl rfl))) (PEm.bo em_int))) (PEm.bo em_str) (nomark _)) (sm_one (sm_set (i := 3) SC.nd rfl (.inl rfl) (em_tup (am_cons (em_idx (hu65 hr) (PEm.bo (em_v 3 rfl (.inl rfl))) (PEm.bo em_int)) (am_cons (em_idx (hu65 hr) (PEm.bo (em_v 3 rfl (.inl rfl))) (PEm.bo em_int)) (am_cons (em_idx (hu65 hr) (PEm.bo (em_v 1 rfl (.inl rfl))) (PEm.bo (em_met isStr_ty PySem.F.plainAttrs_str PySem.F.slot_str_index PySem.F.type_str_index mm_indexS (PEm.bo em_str) (ab_cons (PEm.bo (em_idx (hu65 hr) (PEm.bo (em_v 3 rfl (.inl rfl))) (PEm.bo em_int))) ab_nil)))) (am_cons (em_idx (hu65 hr) (PEm.bo (em_v 3 rfl (.inl rfl))) (PEm.bo em_int)) am_nil))))))) sm_nil) (sm_one (sm_append 2 (em_v 3 rfl (.inl rfl)) rfl (.inl rfl)))))) (sm_one (sm_ret (em_tup (am_cons (em_idx (hu65 hr) (PEm.bo (em_v 0 rfl (.inl rfl))) (PEm.bo em_int)) (am_cons (em_idx (hu65 hr) (PEm.bo (em_v 0 rfl (.inl rfl))) (PEm.bo em_int)) (am_cons (em_ty cm_tuple rfl T.m_tuple (by decide +kernel) (ab_cons (bm_v 2 rfl (.inl rfl)) ab_nil)) am_nil))))))))))
/-! ### _law_called -/
theorem sc__law_called : FnScope ["_law_which", "_law_a"] ["_law_which", "_law_a"] (defScope s__law_called) := ⟨rfl, rfl, rfl, by decide +kernel, rfl, by decide +kernel, by decide +kernel⟩
def b__law_called : SM := (sSeq (sIf (tOf (eOp D.lt (eV 0) (eK (.int 3)))) (sSeq (sIf (tOf (eOp D.eq (eV 0) (eK (.int 0)))) (sRet (eCall f_mirrored [(eOp D.idx (eV 1) (eK (.int 0)))])) (fun ρ => Out.nx ρ)) (sRet (eIf (tOf (eOp D.eq (eV 0) (eK (.int 1)))) (eCall f_turned [(eOp D.idx (eV 1) (eK (.int 0)))]) (eCall f_beside_one [(eOp D.idx (eV 1) (eK (.int 0))), (eOp D.idx (eV 1) (eK (.int 1)))])))) (fun ρ => Out.nx ρ)) (sRet (eIf (tOf (eOp D.eq (eV 0) (eK (.int 3)))) (eCall f_put_cell [(eOp D.idx (eV 1) (eK (.int 0))), (eOp D.idx (eV 1) (eK (.int 1))), (eOp D.idx (eV 1) (eK (.int 2)))]) (eCall f_with_kinds [(eOp D.idx (eV 1) (eK (.int 0))), (eOp D.idx (eV 1) (eK (.int 1)))]))))
def f__law_called : List D → R D := runM 2 b__law_called
theorem ok__law_called (T : Txt K w mg) (F : FD K "_law_called" s__law_called) (hm : mg "_law_called" = some (.ref (He.fAd K ("_law_called", none)))) (G_beside_one : Fn K mg P w base "beside_one" 2 5 f_beside_one) (G_mirrored : Fn K mg P w base "mirrored" 1 5 f_mirrored) (G_put_cell : Fn K mg P w base "put_cell" 3 6 f_put_cell) (G_turned : Fn K mg P w base "turned" 1 5 f_turned) (G_with_kinds : Fn K mg P w base "with_kinds" 2 5 f_with_kinds) : Fn K mg P w base "_law_called" 2 7 f__law_called := by
  obtain ⟨fd, F⟩ := F
  have SC := sc__law_called
  exact fn_mk (N := ["_law_which", "_law_a"]) (ps := ["_law_which", "_law_a"]) F hm sc__law_called rfl (fun _ _ _ _ _ _ us hl => match us, hl with | [_, _], _ => rfl) fun cdv A outer s H E F0 hr tk hp => (sm_cons (sm_if (tm_cmp opm_lt (PEm.bo (em_v 0 rfl (.inl rfl))) (PEm.bo em_int) (nomark _)) (sm_cons (sm_if (tm_cmp (opm_eq hr.units) (PEm.bo (em_v 0 rfl (.inl rfl))) (PEm.bo em_int) (nomark _)) (sm_one (sm_ret (em_call G_mirrored hr (by decide) tk rfl (am_cons (em_idx (hu65 hr) (PEm.bo (em_v 1 rfl (.inl rfl))) (PEm.bo em_int)) am_nil)))) sm_nil) (sm_one (sm_ret (em_if (tm_cmp (opm_eq hr.units) (PEm.bo (em_v 0 rfl (.inl rfl))) (PEm.bo em_int) (nomark _)) (em_call G_turned hr (by decide) tk rfl (am_cons (em_idx (hu65 hr) (PEm.bo (em_v 1 rfl (.inl rfl))) (PEm.bo em_int)) am_nil)) (em_call G_beside_one hr (by decide) tk rfl (am_cons (em_idx (hu65 hr) (PEm.bo (em_v 1 rfl (.inl rfl))) (PEm.bo em_int)) (am_cons (em_idx (hu65 hr) (PEm.bo (em_v 1 rfl (.inl rfl))) (PEm.bo em_int)) am_nil))))))) sm_nil) (sm_one (sm_ret (em_if (tm_cmp (opm_eq hr.units) (PEm.bo (em_v 0 rfl (.inl rfl))) (PEm.bo em_int) (nomark _)) (em_call G_put_cell hr (by decide) tk rfl (am_cons (em_idx (hu65 hr) (PEm.bo (em_v 1 rfl (.inl rfl))) (PEm.bo em_int)) (am_cons (em_idx (hu65 hr) (PEm.bo (em_v 1 rfl (.inl rfl))) (PEm.bo em_int)) (am_cons (em_idx (hu65 hr) (PEm.bo (em_v 1 rfl (.inl rfl))) (PEm.bo em_int)) am_nil)))) (em_call G_with_kinds hr (by decide) tk rfl (am_cons (em_idx (hu65 hr) (PEm.bo (em_v 1 rfl (.inl rfl))) (PEm.bo em_int)) (am_cons (em_idx (hu65 hr) (PEm.bo (em_v 1 rfl (.inl rfl))) (PEm.bo em_int)) am_nil)))))))
/-! ### _law_called_then -/
theorem sc__law_called_then : FnScope ["_law_which", "_law_a"] ["_law_which", "_law_a"] (defScope s__law_called_then) := ⟨rfl, rfl, rfl, by decide +kernel, rfl, by decide +kernel, by decide +kernel⟩
def b__law_called_then : SM := (sSeq (sIf (tOf (eOp D.lt (eV 0) (eK (.int 8)))) (sSeq (sIf (tOf (eOp D.eq (eV 0) (eK (.int 5)))) (sRet eNo) (fun ρ => Out.nx ρ)) (sRet (eIf (tOf (eOp D.eq (eV 0) (eK (.int 6)))) eNo eNo))) (fun ρ => Out.nx ρ)) (sSeq (sIf (tOf (eOp D.lt (eV 0) (eK (.int 10)))) (sRet (eIf (tOf (eOp D.eq (eV 0) (eK (.int 8)))) eNo eNo)) (fun ρ => Out.nx ρ)) (sRet (eIf (tOf (eOp D.eq (eV 0) (eK (.int 10)))) eNo eNo))))
def f__law_called_then : List D → R D := runM 2 b__law_called_then
theorem ok__law_called_then (T : Txt K w mg) (F : FD K "_law_called_then" s__law_called_then) (hm : mg "_law_called_then" = some (.ref (He.fAd K ("_law_called_then", none))))  : Fn K mg P w base "_law_called_then" 2 1 f__law_called_then := by
  obtain ⟨fd, F⟩ := F
  have SC := sc__law_called_then
  exact fn_mk (N := ["_law_which", "_law_a"]) (ps := ["_law_which", "_law_a"]) F hm sc__law_called_then rfl (fun _ _ _ _ _ _ us hl => match us, hl with | [_, _], _ => rfl) fun cdv A outer s H E F0 hr tk hp => (sm_cons (sm_if (tm_cmp opm_lt (PEm.bo (em_v 0 rfl (.inl rfl))) (PEm.bo em_int) (nomark _)) (sm_cons (sm_if (tm_cmp (opm_eq hr.units) (PEm.bo (em_v 0 rfl (.inl rfl))) (PEm.bo em_int) (nomark _)) (sm_one (sm_ret em_never)) sm_nil) (sm_one (sm_ret (em_if (tm_cmp (opm_eq hr.units) (PEm.bo (em_v 0 rfl (.inl rfl))) (PEm.bo em_int) (nomark _)) em_never em_never)))) sm_nil) (sm_cons (sm_if (tm_cmp opm_lt (PEm.bo (em_v 0 rfl (.inl rfl))) (PEm.bo em_int) (nomark _)) (sm_one (sm_ret (em_if (tm_cmp (opm_eq hr.units) (PEm.bo (em_v 0 rfl (.inl rfl))) (PEm.bo em_int) (nomark _)) em_never (PFm.em fm_never)))) sm_nil) (sm_one (sm_ret (em_if (tm_cmp (opm_eq hr.units) (PEm.bo (em_v 0 rfl (.inl rfl))) (PEm.bo em_int) (nomark _)) em_never em_never)))))
/-! ### _law_caught -/
theorem sc__law_caught : FnScope ["_law_which", "_law_a", "_law_caught_here"] ["_law_which", "_law_a"] (defScope s__law_caught) := ⟨rfl, rfl, rfl, by decide +kernel, rfl, by decide +kernel, by decide +kernel⟩
def b__law_caught : SM := (sSeq (sSet 2 (eK (.str ""))) (sSeq (sTry excs subX (sIf (tOf (eOp D.lt (eV 0) (eK (.int 5)))) (sExpr (eCall f__law_called [(eV 0), (eV 1)])) (sExpr (eCall f__law_called_then [(eV 0), (eV 1)]))) [("BadFloor", (sSet 2 (eK (.str "floor")))), ("BadState", (sSet 2 (eK (.str "state")))), ("BadCell", (sSet 2 (eK (.str "cell")))), ("BadCount", (sSet 2 (eK (.str "count")))), ("BadKinds", (sSet 2 (eK (.str "kinds")))), ("BadText", (sSet 2 (eK (.str "text")))), ("Nothing", (sSet 2 (eK (.str "nothing")))), ("TooLong", (sSet 2 (eK (.str "long"))))]) (sRet (eV 2))))
def f__law_caught : List D → R D := runM 3 b__law_caught
theorem ok__law_caught (T : Txt K w mg) (F : FD K "_law_caught" s__law_caught) (hm : mg "_law_caught" = some (.ref (He.fAd K ("_law_caught", none)))) (G__law_called : Fn K mg P w base "_law_called" 2 7 f__law_called) (G__law_called_then : Fn K mg P w base "_law_called_then" 2 1 f__law_called_then) : Fn K mg P w base "_law_caught" 2 8 f__law_caught := by
  obtain ⟨fd, F⟩ := F
  have SC := sc__law_caught
  exact fn_mk (N := ["_law_which", "_law_a", "_law_caught_here"]) (ps := ["_law_which", "_law_a"]) F hm sc__law_caught rfl (fun _ _ _ _ _ _ us hl => match us, hl with | [_, _], _ => rfl) fun cdv A outer s H E F0 hr tk hp => (sm_cons (sm_set (i := 2) SC.nd rfl (.inl rfl) em_str) (sm_cons (sm_try rfl rfl tk T.sub (fun W pn xe tk hpx => (sm_one (sm_if (tm_cmp opm_lt (PEm.bo (em_v 0 rfl (.inl rfl))) (PEm.bo em_int) (nomark _)) (sm_one (sm_expr (em_call G__law_called hr (by decide) tk rfl (am_cons (em_v 0 rfl (.inl rfl)) (am_cons (em_v 1 rfl (.inl rfl)) am_nil))))) (sm_one (sm_expr (em_call G__law_called_then hr (by decide) tk rfl (am_cons (em_v 0 rfl (.inl rfl)) (am_cons (em_v 1 rfl (.inl rfl)) am_nil)))))))) (.cons rfl (by decide) T.x_BadFloor.gC (by decide) (fun _ _ => (sm_one (sm_set (i := 2) SC.nd rfl (.inl rfl) em_str))) (.cons rfl (by decide) T.x_BadState.gC (by decide) (fun _ _ => (sm_one (sm_set (i := 2) SC.nd rfl (.inl rfl) em_str))) (.cons rfl (by decide) T.x_BadCell.gC (by decide) (fun _ _ => (sm_one (sm_set (i := 2) SC.nd rfl (.inl rfl) em_str))) (.cons rfl (by decide) T.x_BadCount.gC (by decide) (fun _ _ => (sm_one (sm_set (i := 2) SC.nd rfl (.inl rfl) em_str))) (.cons rfl (by decide) T.x_BadKinds.gC (by decide) (fun _ _ => (sm_one (sm_set (i := 2) SC.nd rfl (.inl rfl) em_str))) (.cons rfl (by decide) T.x_BadText.gC (by decide) (fun _ _ => (sm_one (sm_set (i := 2) SC.nd rfl (.inl rfl) em_str))) (.cons rfl (by decide) T.x_Nothing.gC (by decide) (fun _ _ => (sm_one (sm_set (i := 2) SC.nd rfl (.inl rfl) em_str))) (.cons rfl (by decide) T.x_TooLong.gC (by decide) (fun _ _ => (sm_one (sm_set (i := 2) SC.nd rfl (.inl rfl) em_str))) .nil))))))))) (sm_one (sm_ret (em_v 2 rfl (.inl rfl))))))
/-! ### _law_turned -/
theorem sc__law_turned : FnScope ["_law_floor_here", "_law_wide", "_law_high", "_law_cells", "_law_found", "_law_cell_here", "_law_across", "_law_down"] ["_law_floor_here"] (defScope s__law_turned) := ⟨rfl, rfl, rfl, by decide +kernel, rfl, by decide +kernel, by decide +kernel⟩
def b__law_turned : SM := (sSeq (sAsg (gTupM [1, 2, 3]) (eV 0)) (sSeq (sSetF 4 (eLst [])) (sSeq (sFor [5, 6, 7] (gOne 5) (iBf rg1 [(eOp D.mul (eV 1) (eV 2))]) (sSeq (sPar2 6 7 (eOp D.fdiv (eV 5) (eV 2)) (eOp D.sub (eOp D.sub (eV 2) (eK (.int 1))) (eOp D.mod (eV 5) (eV 2)))) (sApp 4 (eCall f__law_led [(eOp D.idx (eV 3) (eOp D.add (eOp D.mul (eV 7) (eV 1)) (eV 6))), (eK (.str "eswn"))])))) (sRet (eTup [(eV 2), (eV 1), (eBf bTuple [(eB 4)])])))))
def f__law_turned : List D → R D := runM 8 b__law_turned
theorem ok__law_turned (T : Txt K w mg) (F : FD K "_law_turned" s__law_turned) (hm : mg "_law_turned" = some (.ref (He.fAd K ("_law_turned", none)))) (G__law_led : Fn K mg P w base "_law_led" 2 1 f__law_led) : Fn K mg P w base "_law_turned" 1 2 f__law_turned := by
  obtain ⟨fd, F⟩ := F
  have SC := sc__law_turned
  exact fn_mk (N := ["_law_floor_here", "_law_wide", "_law_high", "_law_cells", "_law_found", "_law_cell_here", "_law_across", "_law_down"]) (ps := ["_law_floor_here"]) F hm sc__law_turned rfl (fun _ _ _ _ _ _ us hl => match us, hl with | [_], _ => rfl) fun cdv A outer s H E F0 hr tk hp => (sm_cons (sm_asg (em_v 0 rfl (.inl rfl)) (gok_tup [1, 2, 3]) (pg_tup rfl (pgs_cons (pg_name (i := 1) SC.nd rfl (.inl rfl)) (pgs_cons (pg_name (i := 2) SC.nd rfl (.inl rfl)) (pgs_cons (pg_name (i := 3) SC.nd rfl (.inl rfl)) pgs_nil))))) (sm_cons (sm_setF (i := 4) SC.nd rfl (.inl rfl) (fm_lst am_nil)) (sm_cons (sm_for hp rfl (im_range1 rfl T.m_range (ab_cons (PEm.bo (em_bin opm_mul (PEm.bo (em_v 1 rfl (.inl rfl))) (PEm.bo (em_v 2 rfl (.inl rfl))))) ab_nil)) (gok_one 5) (pg_name (i := 5) SC.nd rfl (.inl rfl)) (fun _ => (sm_cons (sm_par2 (i := 6) (j := 7) rfl SC.nd rfl rfl (by decide) rfl rfl (am_cons (em_bin opm_fdiv (PEm.bo (em_v 5 rfl (.inl rfl))) (PEm.bo (em_v 2 rfl (.inl rfl)))) (am_cons (em_bin opm_sub (PEm.bo (em_bin opm_sub (PEm.bo (em_v 2 rfl (.inl rfl))) (PEm.bo em_int))) (PEm.bo (em_bin opm_mod (PEm.bo (em_v 5 rfl (.inl rfl))) (PEm.bo (em_v 2 rfl (.inl rfl)))))) am_nil)) rfl) (sm_one (sm_append 4 (em_call G__law_led hr (by decide) tk rfl (am_cons (em_idx (hu65 hr) (PEm.bo (em_v 3 rfl (.inl rfl))) (PEm.bo (em_bin opm_add (PEm.bo (em_bin opm_mul (PEm.bo (em_v 7 rfl (.inl rfl))) (PEm.bo (em_v 1 rfl (.inl rfl))))) (PEm.bo (em_v 6 rfl (.inl rfl)))))) (am_cons em_str am_nil))) rfl (.inl rfl)))))) (sm_one (sm_ret (em_tup (am_cons (em_v 2 rfl (.inl rfl)) (am_cons (em_v 1 rfl (.inl rfl)) (am_cons (em_ty cm_tuple rfl T.m_tuple (by decide +kernel) (ab_cons (bm_v 4 rfl (.inl rfl)) ab_nil)) am_nil)))))))))
/-! ### _law_other_cell -/
theorem sc__law_other_cell : FnScope ["_law_seed_here"] ["_law_seed_here"] (defScope s__law_other_cell) := ⟨rfl, rfl, rfl, by decide +kernel, rfl, by decide +kernel, by decide +kernel⟩
def b__law_other_cell : SM := (sRet (eCall f__law_cell_of [(eV 0), (eOp D.idx (eK (.str "nesw")) (eOp D.mod (eOp D.fdiv (eV 0) (eK (.int 5))) (eK (.int 4))))]))
def f__law_other_cell : List D → R D := runM 1 b__law_other_cell
theorem ok__law_other_cell (T : Txt K w mg) (F : FD K "_law_other_cell" s__law_other_cell) (hm : mg "_law_other_cell" = some (.ref (He.fAd K ("_law_other_cell", none)))) (G__law_cell_of : Fn K mg P w base "_law_cell_of" 2 2 f__law_cell_of) : Fn K mg P w base "_law_other_cell" 1 3 f__law_other_cell := by
  obtain ⟨fd, F⟩ := F
  have SC := sc__law_other_cell
  exact fn_mk (N := ["_law_seed_here"]) (ps := ["_law_seed_here"]) F hm sc__law_other_cell rfl (fun _ _ _ _ _ _ us hl => match us, hl with | [_], _ => rfl) fun cdv A outer s H E F0 hr tk hp => (sm_one (sm_ret (em_call G__law_cell_of hr (by decide) tk rfl (am_cons (em_v 0 rfl (.inl rfl)) (am_cons (em_idx (hu65 hr) (PEm.bo em_str) (PEm.bo (em_bin opm_mod (PEm.bo (em_bin opm_fdiv (PEm.bo (em_v 0 rfl (.inl rfl))) (PEm.bo em_int))) (PEm.bo em_int)))) am_nil)))))
/-! ### law -/
theorem sc_law : FnScope ["_law_script", "_law_floor_here", "_law_other", "_law_wide", "_law_high", "_law_cells", "_law_cell_here", "_law_thing", "_law_kinds", "_law_told", "_law_one", "_law_rows", "_law_down"] ["_law_script"] (defScope s_law) := ⟨rfl, rfl, rfl, by decide +kernel, rfl, by decide +kernel, by decide +kernel⟩
def b_law : SM := (sSeq (sSet 1 (eCall f__law_floor [(eV 0), (eK (.int 0))])) (sSeq (sSet 2 (eCall f__law_floor [(eV 0), (eK (.int 5))])) (sSeq (sAsg (gTupM [3, 4, 5]) (eV 1)) (sSeq (sIf (tOf (eOp D.ne (eCall f_mirrored [(eV 1)]) (eCall f__law_mirrored [(eV 1)]))) (sRet (eK (.bl false))) (fun ρ => Out.nx ρ)) (sSeq (sIf (tOf (eOp D.eq (eV 3) (eK (.int 6)))) (sIf (tOf (eOp D.ne (eCall f__law_caught [(eK (.int 1)), (eLst [(eV 1)])]) (eK (.str "count")))) (sRet (eK (.bl false))) (fun ρ => Out.nx ρ)) (sIf (tOf (eOp D.ne (eCall f_turned [(eV 1)]) (eCall f__law_turned [(eV 1)]))) (sRet (eK (.bl false))) (fun ρ => Out.nx ρ))) (sSeq (sIf (tOrM (tOf (eOp D.ne (eV 4) (eOp D.idx (eV 2) (eK (.int 1))))) (tOf (eOp D.gt (eOp D.add (eV 3) (eOp D.idx (eV 2) (eK (.int 0)))) (eK (.int 6))))) (sIf (tOf (eOp D.ne (eCall f__law_caught [(eK (.int 2)), (eLst [(eV 1), (eV 2)])]) (eK (.str "count")))) (sRet (eK (.bl false))) (fun ρ => Out.nx ρ)) (sSeq (sSet 11 (eTup [])) (sSeq (sFor [12] (gOne 12) (iBf rg1 [(eV 4)]) (sSeq (sSet 11 (eOp D.add (eV 11) (eSl (eV 5) (some (eOp D.mul (eV 12) (eV 3))) (some (eOp D.mul (eOp D.add (eV 12) (eK (.int 1))) (eV 3)))))) (sSet 11 (eOp D.add (eV 11) (eSl (eOp D.idx (eV 2) (eK (.int 2))) (some (eOp D.mul (eV 12) (eOp D.idx (eV 2) (eK (.int 0))))) (some (eOp D.mul (eOp D.add (eV 12) (eK (.int 1))) (eOp D.idx (eV 2) (eK (.int 0)))))))))) (sIf (tOf (eOp D.ne (eCall f_beside_one [(eV 1), (eV 2)]) (eTup [(eOp D.add (eV 3) (eOp D.idx (eV 2) (eK (.int 0)))), (eV 4), (eV 11)]))) (sRet (eK (.bl false))) (fun ρ => Out.nx ρ))))) (sSeq (sSet 6 (eOp D.mod (eCall f__law_cell [(eV 0), (eK (.int 10))]) (eBf bLen [(eV 5)]))) (sSeq (sSet 7 (eCall f__law_other_cell [(eCall f__law_seed [(eCall f__law_cell [(eV 0), (eK (.int 11))]), (eK (.int 1))])])) (sSeq (sIf (tOf (eOp D.ne (eCall f_put_cell [(eV 1), (eV 6), (eV 7)]) (eTup [(eV 3), (eV 4), (eOp D.add (eOp D.add (eSl (eV 5) none (some (eV 6))) (eTup [(eV 7)])) (eSl (eV 5) (some (eOp D.add (eV 6) (eK (.int 1)))) none))]))) (sRet (eK (.bl false))) (fun ρ => Out.nx ρ)) (sSeq (sSet 8 (eOp D.idx (eLst [(eK (.str "abc")), (eK (.str "acb")), (eK (.str "bac")), (eK (.str "bca")), (eK (.str "cab")), (eK (.str "cba"))]) (eOp D.mod (eCall f__law_cell [(eV 0), (eK (.int 12))]) (eK (.int 6))))) (sSeq (sSetF 9 (eLst [])) (sSeq (sFor [10] (gOne 10) (iV (eV 5)) (sApp 9 (eIf (tOf (eOp D.eq (eOp D.idx (eV 10) (eK (.int 0))) (eK (.str "well")))) (eOp D.add (eSl (eV 10) none (some (eK (.int 2)))) (eTup [(eOp D.idx (eV 8) (eMet D.isStr mIndexS (eK (.str "abc")) [(eOp D.idx (eV 10) (eK (.int 2)))])), (eOp D.idx (eV 10) (eK (.int 3)))])) (eV 10)))) (sRet (eOp D.eq (eCall f_with_kinds [(eV 1), (eV 8)]) (eTup [(eV 3), (eV 4), (eBf bTuple [(eB 9)])])))))))))))))))
def f_law : List D → R D := runM 13 b_law
theorem ok_law (T : Txt K w mg) {fd : FuncData} (F : FunD K "law" "law" (defArgs s_law) (defBody s_law) (defScope s_law) [] [] (He.fAd K ("law", none)) fd) (G__law_caught : Fn K mg P w base "_law_caught" 2 8 f__law_caught) (G__law_cell : Fn K mg P w base "_law_cell" 2 1 f__law_cell) (G__law_floor : Fn K mg P w base "_law_floor" 2 3 f__law_floor) (G__law_mirrored : Fn K mg P w base "_law_mirrored" 1 2 f__law_mirrored) (G__law_other_cell : Fn K mg P w base "_law_other_cell" 1 3 f__law_other_cell) (G__law_seed : Fn K mg P w base "_law_seed" 2 1 f__law_seed) (G__law_turned : Fn K mg P w base "_law_turned" 1 2 f__law_turned) (G_beside_one : Fn K mg P w base "beside_one" 2 5 f_beside_one) (G_mirrored : Fn K mg P w base "mirrored" 1 5 f_mirrored) (G_put_cell : Fn K mg P w base "put_cell" 3 6 f_put_cell) (G_turned : Fn K mg P w base "turned" 1 5 f_turned) (G_with_kinds : Fn K mg P w base "with_kinds" 2 5 f_with_kinds) : FnOk P w K mg base (L2.CX P w) 9 (He.fAd K ("law", none)) fd ["_law_script"] (spM ⟨K, w⟩ mg 1 f_law) := by
  have SC := sc_law
  exact fn_okF (N := ["_law_script", "_law_floor_here", "_law_other", "_law_wide", "_law_high", "_law_cells", "_law_cell_here", "_law_thing", "_law_kinds", "_law_told", "_law_one", "_law_rows", "_law_down"]) (ps := ["_law_script"]) F sc_law rfl fun cdv A outer s H E F0 hr tk hp => (sm_cons (sm_set (i := 1) SC.nd rfl (.inl rfl) (em_call G__law_floor hr (by decide) tk rfl (am_cons (em_v 0 rfl (.inl rfl)) (am_cons em_int am_nil)))) (sm_cons (sm_set (i := 2) SC.nd rfl (.inl rfl) (em_call G__law_floor hr (by decide) tk rfl (am_cons (em_v 0 rfl (.inl rfl)) (am_cons em_int am_nil)))) (sm_cons (sm_asg (em_v 1 rfl (.inl rfl)) (gok_tup [3, 4, 5]) (pg_tup rfl (pgs_cons (pg_name (i := 3) SC.nd rfl (.inl rfl)) (pgs_cons (pg_name (i := 4) SC.nd rfl (.inl rfl)) (pgs_cons (pg_name (i := 5) SC.nd rfl (.inl rfl)) pgs_nil))))) (sm_cons (sm_if (tm_cmp (opm_ne hr.units) (PEm.bo (em_call G_mirrored hr (by decide) tk rfl (am_cons (em_v 1 rfl (.inl rfl)) am_nil))) (PEm.bo (em_call G__law_mirrored hr (by decide) tk rfl (am_cons (em_v 1 rfl (.inl rfl)) am_nil))) (nomark _)) (sm_one (sm_ret em_bl)) sm_nil) (sm_cons (sm_if (tm_cmp (opm_eq hr.units) (PEm.bo (em_v 3 rfl (.inl rfl))) (PEm.bo em_int) (nomark _)) (sm_one (sm_if (tm_cmp (opm_ne hr.units) (PEm.bo (em_call G__law_caught hr (by decide) tk rfl (am_cons em_int (am_cons (PFm.em (fm_lst (am_cons (em_v 1 rfl (.inl rfl)) am_nil))) am_nil)))) (PEm.bo em_str) (nomark _)) (sm_one (sm_ret em_bl)) sm_nil)) (sm_one (sm_if (tm_cmp (opm_ne hr.units) (PEm.bo (em_call G_turned hr (by decide) tk rfl (am_cons (em_v 1 rfl (.inl rfl)) am_nil))) (PEm.bo (em_call G__law_turned hr (by decide) tk rfl (am_cons (em_v 1 rfl (.inl rfl)) am_nil))) (nomark _)) (sm_one (sm_ret em_bl)) sm_nil))) (sm_cons (sm_if (PWm.t (wm_or (tm_cmp (opm_ne hr.units) (PEm.bo (em_v 4 rfl (.inl rfl))) (PEm.bo (em_idx (hu65 hr) (PEm.bo (em_v 2 rfl (.inl rfl))) (PEm.bo em_int))) (nomark _)) (wm_or1 (tm_cmp opm_gt (PEm.bo (em_bin opm_add (PEm.bo (em_v 3 rfl (.inl rfl))) (PEm.bo (em_idx (hu65 hr) (PEm.bo (em_v 2 rfl (.inl rfl))) (PEm.bo em_int))))) (PEm.bo em_int) (nomark _))))) (sm_one (sm_if (tm_cmp (opm_ne hr.units) (PEm.bo (em_call G__law_caught hr (by decide) tk rfl (am_cons em_int (am_cons (PFm.em (fm_lst (am_cons (em_v 1 rfl (.inl rfl)) (am_cons (em_v 2 rfl (.inl rfl)) am_nil)))) am_nil)))) (PEm.bo em_str) (nomark _)) (sm_one (sm_ret em_bl)) sm_nil)) (sm_cons (sm_set (i := 11) SC.nd rfl (.inl rfl) (em_tup am_nil)) (sm_cons (sm_for hp rfl (im_range1 rfl T.m_range (ab_cons (PEm.bo (em_v 4 rfl (.inl rfl))) ab_nil)) (gok_one 12) (pg_name (i := 12) SC.nd rfl (.inl rfl)) (fun _ => (sm_cons (sm_set (i := 11) SC.nd rfl (.inl rfl) (em_bin opm_add (PEm.bo (em_v 11 rfl (.inl rfl))) (PEm.bo (em_sl (PEm.bo (em_v 5 rfl (.inl rfl))) (om_some (PEm.bo (em_bin opm_mul (PEm.bo (em_v 12 rfl (.inl rfl))) (PEm.bo (em_v 3 rfl (.inl rfl)))))) (om_some (PEm.bo (em_bin opm_mul (PEm.bo (em_bin opm_add (PEm.bo (em_v 12 rfl (.inl rfl))) (PEm.bo em_int))) (PEm.bo (em_v 3 rfl (.inl rfl)))))))))) (sm_one (sm_set (i := 11) SC.nd rfl (.inl rfl) (em_bin opm_add (PEm.bo (em_v 11 rfl (.inl rfl))) (PEm.bo (em_sl (PEm.bo (em_idx (hu65 hr) (PEm.bo (em_v 2 rfl (.inl rfl))) (PEm.bo em_int))) (om_some (PEm.bo (em_bin opm_mul (PEm.bo (em_v 12 rfl (.inl rfl))) (PEm.bo (em_idx (hu65 hr) (PEm.bo (em_v 2 rfl (.inl rfl))) (PEm.bo em_int)))))) (om_some (PEm.bo (em_bin opm_mul (PEm.bo (em_bin opm_add (PEm.bo (em_v 12 rfl (.inl rfl))) (PEm.bo em_int))) (PEm.bo (em_idx (hu65 hr) (PEm.bo (em_v 2 rfl (.inl rfl))) (PEm.bo em_int)))))))))))))) (sm_one (sm_if (tm_cmp (opm_ne hr.units) (PEm.bo (em_call G_beside_one hr (by decide) tk rfl (am_cons (em_v 1 rfl (.inl rfl)) (am_cons (em_v 2 rfl (.inl rfl)) am_nil)))) (PEm.bo (em_tup (am_cons (em_bin opm_add (PEm.bo (em_v 3 rfl (.inl rfl))) (PEm.bo (em_idx (hu65 hr) (PEm.bo (em_v 2 rfl (.inl rfl))) (PEm.bo em_int)))) (am_cons (em_v 4 rfl (.inl rfl)) (am_cons (em_v 11 rfl (.inl rfl)) am_nil))))) (nomark _)) (sm_one (sm_ret em_bl)) sm_nil))))) (sm_cons (sm_set (i := 6) SC.nd rfl (.inl rfl) (em_bin opm_mod (PEm.bo (em_call G__law_cell hr (by decide) tk rfl (am_cons (em_v 0 rfl (.inl rfl)) (am_cons em_int am_nil)))) (PEm.bo (em_bf cm_len rfl T.m_len PySem.boot_len (ab_cons (PEm.bo (em_v 5 rfl (.inl rfl))) ab_nil))))) (sm_cons (sm_set (i := 7) SC.nd rfl (.inl rfl) (em_call G__law_other_cell hr (by decide) tk rfl (am_cons (em_call G__law_seed hr (by decide) tk rfl (am_cons (em_call G__law_cell hr (by decide) tk rfl (am_cons (em_v 0 rfl (.inl rfl)) (am_cons em_int am_nil))) (am_cons em_int am_nil))) am_nil))) (sm_cons (sm_if (tm_cmp (opm_ne hr.units) (PEm.bo (em_call G_put_cell hr (by decide) tk rfl (am_cons (em_v 1 rfl (.inl rfl)) (am_cons (em_v 6 rfl (.inl rfl)) (am_cons (em_v 7 rfl (.inl rfl)) am_nil))))) (PEm.bo (em_tup (am_cons (em_v 3 rfl (.inl rfl)) (am_cons (em_v 4 rfl (.inl rfl)) (am_cons (em_bin opm_add (PEm.bo (em_bin opm_add (PEm.bo (em_sl (PEm.bo (em_v 5 rfl (.inl rfl))) om_none (om_some (PEm.bo (em_v 6 rfl (.inl rfl)))))) (PEm.bo (em_tup (am_cons (em_v 7 rfl (.inl rfl)) am_nil))))) (PEm.bo (em_sl (PEm.bo (em_v 5 rfl (.inl rfl))) (om_some (PEm.bo (em_bin opm_add (PEm.bo (em_v 6 rfl (.inl rfl))) (PEm.bo em_int)))) om_none))) am_nil))))) (nomark _)) (sm_one (sm_ret em_bl)) sm_nil) (sm_cons (sm_set (i := 8) SC.nd rfl (.inl rfl) (em_idx (hu65 hr) (PFm.bo (fm_lst (am_cons em_str (am_cons em_str (am_cons em_str (am_cons em_str (am_cons em_str (am_cons em_str am_nil)))))))) (PEm.bo (em_bin opm_mod (PEm.bo (em_call G__law_cell hr (by decide) tk rfl (am_cons (em_v 0 rfl (.inl rfl)) (am_cons em_int am_nil)))) (PEm.bo em_int))))) (sm_cons (sm_setF (i := 9) SC.nd rfl (.inl rfl) (fm_lst am_nil)) (sm_cons (sm_for hp rfl (im_any (em_v 5 rfl (.inl rfl))) (gok_one 10) (pg_name (i := 10) SC.nd rfl (.inl rfl)) (fun _ => (sm_one (sm_append 9 (em_if (tm_cmp (opm_eq hr.units) (PEm.bo (em_idx (hu65 hr) (PEm.bo (em_v 10 rfl (.inl rfl))) (PEm.bo em_int))) (PEm.bo em_str) (nomark _)) (em_bin opm_add (PEm.bo (em_sl (PEm.bo (em_v 10 rfl (.inl rfl))) om_none (om_some (PEm.bo em_int)))) (PEm.bo (em_tup (am_cons (em_idx (hu65 hr) (PEm.bo (em_v 8 rfl (.inl rfl))) (PEm.bo (em_met isStr_ty PySem.F.plainAttrs_str PySem.F.slot_str_index PySem.F.type_str_index mm_indexS (PEm.bo em_str) (ab_cons (PEm.bo (em_idx (hu65 hr) (PEm.bo (em_v 10 rfl (.inl rfl))) (PEm.bo em_int))) ab_nil)))) (am_cons (em_idx (hu65 hr) (PEm.bo (em_v 10 rfl (.inl rfl))) (PEm.bo em_int)) am_nil))))) (em_v 10 rfl (.inl rfl))) rfl (.inl rfl))))) (sm_one (sm_ret (em_cmp (opm_eq hr.units) (PEm.bo (em_call G_with_kinds hr (by decide) tk rfl (am_cons (em_v 1 rfl (.inl rfl)) (am_cons (em_v 8 rfl (.inl rfl)) am_nil)))) (PEm.bo (em_tup (am_cons (em_v 3 rfl (.inl rfl)) (am_cons (em_v 4 rfl (.inl rfl)) (am_cons (em_ty cm_tuple rfl T.m_tuple (by decide +kernel) (ab_cons (bm_v 9 rfl (.inl rfl)) ab_nil)) am_nil))))) (nomark _))))))))))))))))
end
end L2.Pv.Lw

set_option Elab.async false
set_option linter.all false
set_option maxRecDepth 100000
set_option maxHeartbeats 4000000
set_option autoImplicit false
namespace L2.Pv.Lw
open PySem PySem.Spec PyProof.Rows
/-! ### the head -/
theorem exc_mem : ∀ f, f ∈ excFa excs subX → f ∈ hkd.fa := fun f h => List.mem_append_right _ h
theorem txt {w : World} {K : PySem.W.Frag} {h : Heap} {mg : Str → Option Value} (X : K.In h) (G : h.Ns mainGlobals mg) (c : hkd.Says w K) : Txt K w mg where
  d_MIRROR := c.gdct X G 0 40 0 rfl rfl rfl rfl
  d_RIGHT := c.gdct X G 1 41 1 rfl rfl rfl rfl
  m_bool := He.free_ok X G (He.SaysD.fact c.d 26 (f := .free "bool") rfl)
  m_dict := He.free_ok X G (He.SaysD.fact c.d 27 (f := .free "dict") rfl)
  m_int := He.free_ok X G (He.SaysD.fact c.d 28 (f := .free "int") rfl)
  m_isinstance := He.free_ok X G (He.SaysD.fact c.d 29 (f := .free "isinstance") rfl)
  m_len := He.free_ok X G (He.SaysD.fact c.d 30 (f := .free "len") rfl)
  m_range := He.free_ok X G (He.SaysD.fact c.d 31 (f := .free "range") rfl)
  m_sorted := He.free_ok X G (He.SaysD.fact c.d 32 (f := .free "sorted") rfl)
  m_str := He.free_ok X G (He.SaysD.fact c.d 33 (f := .free "str") rfl)
  m_tuple := He.free_ok X G (He.SaysD.fact c.d 34 (f := .free "tuple") rfl)
  m_zip := He.free_ok X G (He.SaysD.fact c.d 35 (f := .free "zip") rfl)
  c_MOST_HIGH := He.int_ok X G (He.SaysD.fact c.d 36 (f := .int "MOST_HIGH" 5) rfl)
  c_MOST_WAIT := He.int_ok X G (He.SaysD.fact c.d 37 (f := .int "MOST_WAIT" 5) rfl)
  c_MOST_WIDE := He.int_ok X G (He.SaysD.fact c.d 38 (f := .int "MOST_WIDE" 6) rfl)
  c_SIDES := c.tup X G 0 39 rfl rfl rfl
  x_BadCell := c.exF X G exc_mem (by decide)
  x_BadCount := c.exF X G exc_mem (by decide)
  x_BadFloor := c.exF X G exc_mem (by decide)
  x_BadKinds := c.exF X G exc_mem (by decide)
  x_BadState := c.exF X G exc_mem (by decide)
  x_BadText := c.exF X G exc_mem (by decide)
  x_Nothing := c.exF X G exc_mem (by decide)
  x_TooLong := c.exF X G exc_mem (by decide)
  sub := c.subOk X G exc_mem
theorem facts {P : Program} {w : World} {K : PySem.W.Frag} {h : Heap} {mg : Str → Option Value} (X : K.In h) (G : h.Ns mainGlobals mg) (c : hkd.Says w K) {base : Heap} {fd : FuncData} (F : FunD K "law" "law" (defArgs s_law) (defBody s_law) (defScope s_law) [] [] (He.fAd K ("law", none)) fd) : FnOk P w K mg base (L2.CX P w) 9 (He.fAd K ("law", none)) fd ["_law_script"] (spM ⟨K, w⟩ mg 1 f_law) := by
  have T := txt X G c
  have G__law_cell := ok__law_cell (P := P) (w := w) (base := base) T (He.SaysD.def_ c.d 0 (d := d__law_cell) rfl) (He.glo_ok X G (He.SaysD.fact c.d 0 (f := .glo "_law_cell") rfl)) 
  have G__law_seed := ok__law_seed (P := P) (w := w) (base := base) T (He.SaysD.def_ c.d 1 (d := d__law_seed) rfl) (He.glo_ok X G (He.SaysD.fact c.d 1 (f := .glo "_law_seed") rfl)) 
  have G__law_pick := ok__law_pick (P := P) (w := w) (base := base) T (He.SaysD.def_ c.d 2 (d := d__law_pick) rfl) (He.glo_ok X G (He.SaysD.fact c.d 2 (f := .glo "_law_pick") rfl)) 
  have G__law_cell_of := ok__law_cell_of (P := P) (w := w) (base := base) T (He.SaysD.def_ c.d 3 (d := d__law_cell_of) rfl) (He.glo_ok X G (He.SaysD.fact c.d 3 (f := .glo "_law_cell_of") rfl)) G__law_pick
  have G__law_floor := ok__law_floor (P := P) (w := w) (base := base) T (He.SaysD.def_ c.d 4 (d := d__law_floor) rfl) (He.glo_ok X G (He.SaysD.fact c.d 4 (f := .glo "_law_floor") rfl)) G__law_cell G__law_cell_of G__law_seed
  have G_is_within := ok_is_within (P := P) (w := w) (base := base) T (He.SaysD.def_ c.d 5 (d := d_is_within) rfl) (He.glo_ok X G (He.SaysD.fact c.d 5 (f := .glo "is_within") rfl)) 
  have G_is_side := ok_is_side (P := P) (w := w) (base := base) T (He.SaysD.def_ c.d 6 (d := d_is_side) rfl) (He.glo_ok X G (He.SaysD.fact c.d 6 (f := .glo "is_side") rfl)) 
  have G_is_kind := ok_is_kind (P := P) (w := w) (base := base) T (He.SaysD.def_ c.d 7 (d := d_is_kind) rfl) (He.glo_ok X G (He.SaysD.fact c.d 7 (f := .glo "is_kind") rfl)) 
  have G_is_cell := ok_is_cell (P := P) (w := w) (base := base) T (He.SaysD.def_ c.d 8 (d := d_is_cell) rfl) (He.glo_ok X G (He.SaysD.fact c.d 8 (f := .glo "is_cell") rfl)) G_is_kind G_is_side G_is_within
  have G_is_floor := ok_is_floor (P := P) (w := w) (base := base) T (He.SaysD.def_ c.d 9 (d := d_is_floor) rfl) (He.glo_ok X G (He.SaysD.fact c.d 9 (f := .glo "is_floor") rfl)) G_is_cell G_is_within
  have G_look := ok_look (P := P) (w := w) (base := base) T (He.SaysD.def_ c.d 10 (d := d_look) rfl) (He.glo_ok X G (He.SaysD.fact c.d 10 (f := .glo "look") rfl)) G_is_floor
  have G_led := ok_led (P := P) (w := w) (base := base) T (He.SaysD.def_ c.d 11 (d := d_led) rfl) (He.glo_ok X G (He.SaysD.fact c.d 11 (f := .glo "led") rfl)) 
  have G_mirrored := ok_mirrored (P := P) (w := w) (base := base) T (He.SaysD.def_ c.d 12 (d := d_mirrored) rfl) (He.glo_ok X G (He.SaysD.fact c.d 12 (f := .glo "mirrored") rfl)) G_led G_look
  have G__law_led := ok__law_led (P := P) (w := w) (base := base) T (He.SaysD.def_ c.d 13 (d := d__law_led) rfl) (He.glo_ok X G (He.SaysD.fact c.d 13 (f := .glo "_law_led") rfl)) 
  have G__law_mirrored := ok__law_mirrored (P := P) (w := w) (base := base) T (He.SaysD.def_ c.d 14 (d := d__law_mirrored) rfl) (He.glo_ok X G (He.SaysD.fact c.d 14 (f := .glo "_law_mirrored") rfl)) G__law_led
  have G_turned := ok_turned (P := P) (w := w) (base := base) T (He.SaysD.def_ c.d 15 (d := d_turned) rfl) (He.glo_ok X G (He.SaysD.fact c.d 15 (f := .glo "turned") rfl)) G_led G_look
  have G_beside_one := ok_beside_one (P := P) (w := w) (base := base) T (He.SaysD.def_ c.d 16 (d := d_beside_one) rfl) (He.glo_ok X G (He.SaysD.fact c.d 16 (f := .glo "beside_one") rfl)) G_look
  have G_look_cell := ok_look_cell (P := P) (w := w) (base := base) T (He.SaysD.def_ c.d 17 (d := d_look_cell) rfl) (He.glo_ok X G (He.SaysD.fact c.d 17 (f := .glo "look_cell") rfl)) G_is_within G_look
  have G_put_cell := ok_put_cell (P := P) (w := w) (base := base) T (He.SaysD.def_ c.d 18 (d := d_put_cell) rfl) (He.glo_ok X G (He.SaysD.fact c.d 18 (f := .glo "put_cell") rfl)) G_is_cell G_look_cell
  have G_with_kinds := ok_with_kinds (P := P) (w := w) (base := base) T (He.SaysD.def_ c.d 19 (d := d_with_kinds) rfl) (He.glo_ok X G (He.SaysD.fact c.d 19 (f := .glo "with_kinds") rfl)) G_look
  have G__law_called := ok__law_called (P := P) (w := w) (base := base) T (He.SaysD.def_ c.d 20 (d := d__law_called) rfl) (He.glo_ok X G (He.SaysD.fact c.d 20 (f := .glo "_law_called") rfl)) G_beside_one G_mirrored G_put_cell G_turned G_with_kinds
  have G__law_called_then := ok__law_called_then (P := P) (w := w) (base := base) T (He.SaysD.def_ c.d 21 (d := d__law_called_then) rfl) (He.glo_ok X G (He.SaysD.fact c.d 21 (f := .glo "_law_called_then") rfl)) 
  have G__law_caught := ok__law_caught (P := P) (w := w) (base := base) T (He.SaysD.def_ c.d 22 (d := d__law_caught) rfl) (He.glo_ok X G (He.SaysD.fact c.d 22 (f := .glo "_law_caught") rfl)) G__law_called G__law_called_then
  have G__law_turned := ok__law_turned (P := P) (w := w) (base := base) T (He.SaysD.def_ c.d 23 (d := d__law_turned) rfl) (He.glo_ok X G (He.SaysD.fact c.d 23 (f := .glo "_law_turned") rfl)) G__law_led
  have G__law_other_cell := ok__law_other_cell (P := P) (w := w) (base := base) T (He.SaysD.def_ c.d 24 (d := d__law_other_cell) rfl) (He.glo_ok X G (He.SaysD.fact c.d 24 (f := .glo "_law_other_cell") rfl)) G__law_cell_of
  exact ok_law T F G__law_caught G__law_cell G__law_floor G__law_mirrored G__law_other_cell G__law_seed G__law_turned G_beside_one G_mirrored G_put_cell G_turned G_with_kinds
open PySem PySem.W PySem.Calls PyProof.Rows in
theorem law_holds (hf : ∀ ns : List Int, ns.length ≤ 63 → f_law [.scr ns] = .ok (.bl true)) : PySem.Challenge.rw_beltturns_k16_other_floors.Holds := by
  w_on; o_law
  refine HandSHeadRun.head_any (r := OpenLaw.row PySem.Challenge.rw_beltturns_k16_other_floors) (q := view (OpenLaw.row PySem.Challenge.rw_beltturns_k16_other_floors).prog [72]) (H := hk) (ob := ob) (M := 12000) (loose := others) (d := HandSHeadRun.topDef (OpenLaw.row PySem.Challenge.rw_beltturns_k16_other_floors).prog 72) (kwd := []) ob_eq
    (by kernel_rfl) (fun s => by kernel_rfl) run (by kernel_rfl) (by kernel_rfl) (by kernel_rfl) (by rfl) (by first | assumption | decide +kernel) (by decide +kernel) ⟨rfl, rfl, rfl, rfl, rfl, by decide +kernel⟩ ?hw ?hc
  case hw => w_witness2
  case hc =>
    refine walk_pv (l := PySem.Challenge.rw_beltturns_k16_other_floors) (n := 63) (k := 9) (x := "_law_script") (f := f_law) rfl (by decide) (by kernel_rfl) ⟨rfl, by decide, by decide⟩ hf ?F
    intro w mg fa h Y G hmg0
    obtain ⟨K, KX, c⟩ := Y
    have hmg : mg ("law" : PySem.Str) = some (.ref fa) := by
      have e : (HandSHeadRun.topDef (OpenLaw.row PySem.Challenge.rw_beltturns_k16_other_floors).prog 72).name = ("law" : PySem.Str) := by kernel_rfl
      rw [← e]
      exact hmg0
    obtain ⟨fd, F⟩ := He.SaysD.def_ c.d 25 (d := d_law) rfl
    have e := hmg.symm.trans (He.glo_ok KX G (He.SaysD.fact c.d 25 (f := .glo "law") rfl))
    cases e
    have b := FunD.bindsA (ps := ["_law_script"]) F fun _ _ _ _ _ _ us hl => match us, hl with | [_], _ => rfl
    refine ⟨K, fd, KX, fun s v => b s [v] rfl, fun base _ _ => ?_⟩
    exact facts (P := (PySem.Challenge.rw_beltturns_k16_other_floors).prog) (w := w) KX G c F
section
end
end L2.Pv.Lw

set_option maxRecDepth 100000
set_option maxHeartbeats 1000000
set_option linter.all false
set_option Elab.async false
set_option autoImplicit false
namespace L2.Pv.Lw
open PySem PySem.Spec PyProof.Rows L2.Pv
theorem within_eq (v lo hi : Int) : f_is_within [.int v, .int lo, .int hi] = .ok (.bl (decide (lo ≤ v ∧ v ≤ hi))) := by
  by_cases h1 : lo ≤ v <;> by_cases h2 : v ≤ hi <;>
  simp [f_is_within, runM, b_is_within, startE, D.tyN, isTy, h1, h2]
end L2.Pv.Lw

set_option maxRecDepth 100000
set_option maxHeartbeats 1000000
set_option linter.all false
set_option Elab.async false
set_option autoImplicit false
namespace L2.Pv.Lw
open PySem PySem.Spec PyProof.Rows L2.Pv
theorem cell_eq (ns : List Int) (k : Nat) : f__law_cell [.scr ns, .int k] = .ok (.int (cellI ns k)) := by
  simp only [f__law_cell, runM, b__law_cell, startE]
  simp
  by_cases h : k < ns.length
  · simp [h, idx_scr h]
  · have e : cellI ns k = 0 := by unfold cellI; rw [List.getD_eq_getElem?_getD, List.getElem?_eq_none (by omega)]; rfl
    simp [h, e]
theorem seed_eq (s : Int) {k : Int} (h : -1000000 < k ∧ k < 1000000) : f__law_seed [.int s, .int k] = .ok (.int (seedI s k)) := by
  have p0 := Int.emod_nonneg (s * 1103515245 + 7919 * k + 12345) (show (2147483647 : Int) ≠ 0 by decide)
  have p1 := Int.emod_lt_of_pos (s * 1103515245 + 7919 * k + 12345) (show (0 : Int) < 2147483647 by decide)
  simp only [f__law_seed, runM, b__law_seed, startE]
  simp [d_mul, smallI, d_mod]
  have e : D.pow (.int ((s * 1103515245 + 7919 * k + 12345) % 2147483647)) (.int 5) = some (.int (((s * 1103515245 + 7919 * k + 12345) % 2147483647) ^ 5)) := by
    show (if _ then _ else _) = _
    rw [if_pos]
    · rfl
    · simp; omega
  rw [e]
  simp [d_mod, seedI]
theorem pick_eq {s : Int} {m : Int} (h : 0 < m) : f__law_pick [.int s, .int m] = .ok (.int (s / 97 % m)) := by
  simp only [f__law_pick, runM, b__law_pick, startE]
  simp [d_fdiv, d_mod, h]
theorem cell_of_ok (s : Int) (sd : Side) : ∃ c : Cell, c.Ok ∧ f__law_cell_of [.int s, .str sd.str] = .ok c.enc := by
  have m4 := fun x : Int => And.intro (Int.emod_nonneg x (show (4 : Int) ≠ 0 by decide)) (Int.emod_lt_of_pos x (show (0 : Int) < 4 by decide))
  have m3 := fun x : Int => And.intro (Int.emod_nonneg x (show (3 : Int) ≠ 0 by decide)) (Int.emod_lt_of_pos x (show (0 : Int) < 3 by decide))
  have m5 := fun x : Int => And.intro (Int.emod_nonneg x (show (5 : Int) ≠ 0 by decide)) (Int.emod_lt_of_pos x (show (0 : Int) < 5 by decide))
  obtain ⟨s1, e1, _⟩ := idx_nesw_str (s / 7 % 4) (m4 _).1 (m4 _).2
  have e3 := idx_abc_str (s / 13 % 3) (m3 _).1 (m3 _).2
  obtain ⟨s2, e2, q2⟩ := idx_nesw_str ((Side.pick 0 1 2 3 sd + 1 + s / 19 % 3) % 4) (m4 _).1 (m4 _).2
  simp only [f__law_cell_of, runM, b__law_cell_of, startE]
  simp [d_fdiv, d_mod, e1, pick_eq, D.isStr, index_nesw, e2, e3]
  by_cases h6 : s / 97 % 12 < 6
  · by_cases h11 : 0 < s / 11 % 4
    · exact ⟨.belt sd, trivial, by simp [h6, h11, Cell.enc]⟩
    · exact ⟨.belt s1, trivial, by simp [h6, h11, Cell.enc]⟩
  by_cases h66 : s / 97 % 12 = 6
  · exact ⟨.wall, trivial, by simp [h66, Cell.enc]⟩
  by_cases h9 : s / 97 % 12 < 9
  · refine ⟨.well sd (s / 13 % 3).toNat (1 + s / 17 % 5).toNat, ⟨?_, ?_, ?_⟩, ?_⟩
    · have := m3 (s / 13); omega
    · have := m5 (s / 17); omega
    · have := m5 (s / 17); omega
    · have := m5 (s / 17)
      have q : ((1 + s / 17 % 5).toNat : Int) = 1 + s / 17 % 5 := Int.toNat_of_nonneg (by omega)
      simp [h6, h66, h9, Cell.enc, d_fdiv, d_mod, e3]
      omega
  by_cases h99 : s / 97 % 12 = 9
  · exact ⟨.fin, trivial, by simp [h99, Cell.enc]⟩
  · refine ⟨.parter sd s2, ?_, by simp [h6, h66, h9, h99, Cell.enc, index_nesw, d_fdiv, d_mod, e2]⟩
    have := m3 (s / 19)
    intro he
    subst he
    have : s / 19 % 3 = 0 ∨ s / 19 % 3 = 1 ∨ s / 19 % 3 = 2 := by omega
    rcases this with h | h | h <;> rw [h] at q2 <;> cases sd <;> revert q2 <;> decide
end L2.Pv.Lw

set_option maxRecDepth 100000
set_option maxHeartbeats 1000000
set_option linter.all false
set_option Elab.async false
set_option autoImplicit false
namespace L2.Pv.Lw
open PySem PySem.Spec PyProof.Rows L2.Pv
theorem cell_eqI (ns : List Int) {j : Int} (h : 0 ≤ j) : f__law_cell [.scr ns, .int j] = .ok (.int (cellI ns j.toNat)) := by
  have := cell_eq ns j.toNat
  rw [Int.toNat_of_nonneg h] at this
  exact this
theorem cell_eqD {sd : D} {cf : Nat → Int} (hS : ∀ k : Nat, f__law_cell [sd, .int k] = .ok (.int (cf k))) {j : Int} (h : 0 ≤ j) : f__law_cell [sd, .int j] = .ok (.int (cf j.toNat)) := by
  have := hS j.toNat
  rw [Int.toNat_of_nonneg h] at this
  exact this
theorem floor_turn {sd : D} {cf : Nat → Int} (hS : ∀ k : Nat, f__law_cell [sd, .int k] = .ok (.int (cf k))) (k W H down : Nat) (hW : 1 ≤ W) (hW6 : W ≤ 6) (hd : down < 5) (hk : k ≤ 1000) {i : Nat} {ρ : Env} (hi : i < W)
    (h : ∃ cs : List Cell, cs.length = down * W + i ∧ (∀ c ∈ cs, c.Ok) ∧ ρ = [some (.val (sd)), some (.val (.int k)), some (.val (.int W)), some (.val (.int H)), some (.own (.lst (cs.map Cell.enc))), some (.val (.int down)), none, none, none, none]) :
    ∃ ρ', turn [6, 7, 8, 9] ρ (.int i) (sSeq (sSet 7 (eOp D.idx (eLst [(eK (.str "e")), (eK (.str "w"))]) (eOp D.mod (eV 5) (eK (.int 2))))) (sSeq (sIf (tOf (eOp D.eq (eV 6) (eOp D.idx (eLst [(eOp D.sub (eV 2) (eK (.int 1))), (eK (.int 0))]) (eOp D.mod (eV 5) (eK (.int 2)))))) (sSet 7 (eK (.str "s"))) (fun ρ => Out.nx ρ)) (sSeq (sSet 8 (eCall f__law_seed [(eOp D.add (eCall f__law_cell [(eV 0), (eOp D.add (eV 1) (eK (.int 2)))]) (eOp D.mul (eK (.int 41)) (eOp D.add (eOp D.mul (eV 5) (eV 2)) (eV 6)))), (eV 6)])) (sSeq (sSet 9 (eCall f__law_cell_of [(eV 8), (eV 7)])) (sSeq (sIf (tAndM (tOf (eOp D.eq (eOp D.mod (eCall f__law_cell [(eV 0), (eOp D.add (eV 1) (eK (.int 3)))]) (eK (.int 3))) (eK (.int 0)))) (tOf (eOp D.gt (eOp D.mod (eOp D.fdiv (eV 8) (eK (.int 23))) (eK (.int 5))) (eK (.int 0))))) (sSet 9 (eTup [(eK (.str "belt")), (eV 7)])) (fun ρ => Out.nx ρ)) (sApp 4 (eV 9))))))) (gOne 6) = some (.inl ρ') ∧
      ∃ cs : List Cell, cs.length = down * W + (i + 1) ∧ (∀ c ∈ cs, c.Ok) ∧ ρ' = [some (.val (sd)), some (.val (.int k)), some (.val (.int W)), some (.val (.int H)), some (.own (.lst (cs.map Cell.enc))), some (.val (.int down)), none, none, none, none] := by
  obtain ⟨cs, hl, hc, rfl⟩ := h
  have hmul : D.mul (.int down) (.int W) = some (.int (down * W)) := d_mul _ _ (.inr (by simp [smallI]; omega))
  have hmul2 : D.mul (.int 41) (.int (down * W + i)) = some (.int (41 * (down * W + i))) := d_mul _ _ (.inl (by simp [smallI]))
  obtain ⟨s0, hs0⟩ : ∃ s : Side, D.idx (.lst [.str "e", .str "w"]) (.int ((down : Int) % 2)) = some (.str s.str) := by
    have : (down : Int) % 2 = 0 ∨ (down : Int) % 2 = 1 := by omega
    rcases this with h | h <;> rw [h]
    · exact ⟨.e, idx_l0 _ _⟩
    · exact ⟨.w, idx_l1 _ _ _⟩
  obtain ⟨m, hm⟩ : ∃ m : Int, D.idx (.lst [.int ((W : Int) - 1), .int 0]) (.int ((down : Int) % 2)) = some (.int m) := by
    have : (down : Int) % 2 = 0 ∨ (down : Int) % 2 = 1 := by omega
    rcases this with h | h <;> rw [h]
    · exact ⟨_, idx_l0 _ _⟩
    · exact ⟨_, idx_l1 _ _ _⟩
  have fin : ∀ s : Side, ∃ ρ', ((sSeq (sSet 8 (eCall f__law_seed [(eOp D.add (eCall f__law_cell [(eV 0), (eOp D.add (eV 1) (eK (.int 2)))]) (eOp D.mul (eK (.int 41)) (eOp D.add (eOp D.mul (eV 5) (eV 2)) (eV 6)))), (eV 6)])) (sSeq (sSet 9 (eCall f__law_cell_of [(eV 8), (eV 7)])) (sSeq (sIf (tAndM (tOf (eOp D.eq (eOp D.mod (eCall f__law_cell [(eV 0), (eOp D.add (eV 1) (eK (.int 3)))]) (eK (.int 3))) (eK (.int 0)))) (tOf (eOp D.gt (eOp D.mod (eOp D.fdiv (eV 8) (eK (.int 23))) (eK (.int 5))) (eK (.int 0))))) (sSet 9 (eTup [(eK (.str "belt")), (eV 7)])) (fun ρ => Out.nx ρ)) (sApp 4 (eV 9)))))
      [some (.val (sd)), some (.val (.int k)), some (.val (.int W)), some (.val (.int H)), some (.own (.lst (cs.map Cell.enc))), some (.val (.int down)), some (.val (.int i)), some (.val (.str s.str)), none, none]).loop [6, 7, 8, 9] = some (.inl ρ') ∧
      ∃ cs : List Cell, cs.length = down * W + (i + 1) ∧ (∀ c ∈ cs, c.Ok) ∧ ρ' = [some (.val (sd)), some (.val (.int k)), some (.val (.int W)), some (.val (.int H)), some (.own (.lst (cs.map Cell.enc))), some (.val (.int down)), none, none, none, none] := by
    intro s
    obtain ⟨c, hc1, hc2⟩ := cell_of_ok (seedI (cf (k + 2) + 41 * (down * W + i)) i) s
    have e2 := cell_eqD hS (j := (k : Int) + 2) (by omega)
    have e3 := cell_eqD hS (j := (k : Int) + 3) (by omega)
    rw [show ((k : Int) + 2).toNat = k + 2 from by omega] at e2
    have es := seed_eq (cf (k + 2) + 41 * (down * W + i)) (k := i) (by omega)
    have hbig : cs.length < lim := by
      have : down * W ≤ 30 := Nat.mul_le_mul (show down ≤ 5 by omega) hW6
      exact Nat.lt_of_le_of_lt (show cs.length ≤ 100 by omega) lim100
    simp [e2, e3, hmul, hmul2, es, hc2, d_mod, d_fdiv, hbig]
    have put : ∀ c : Cell, c.Ok → ∃ cs' : List Cell, cs'.length = down * W + (i + 1) ∧ (∀ c ∈ cs', c.Ok) ∧ cs.map Cell.enc ++ [c.enc] = cs'.map Cell.enc := fun c h =>
      ⟨cs ++ [c], by simp [hl]; omega, fun d hd => by
        rcases List.mem_append.mp hd with hd | hd
        · exact hc d hd
        · rw [List.mem_singleton.mp hd]; exact h, by simp⟩
    obtain ⟨cs1, l1, k1, q1⟩ := put c hc1
    obtain ⟨cs2, l2, k2, q2⟩ := put (.belt s) trivial
    by_cases hA : cf ((k : Int) + 3).toNat % 3 = 0
    · by_cases hB : 0 < seedI (cf (k + 2) + 41 * (down * W + i)) i / 23 % 5
      · simp [hA, hB, hbig]
        exact ⟨cs2, l2, k2, q2⟩
      · simp [hA, hB, hbig]
        exact ⟨cs1, l1, k1, q1⟩
    · simp [hA, hbig]
      exact ⟨cs1, l1, k1, q1⟩
  rw [turn_one]
  have hmod : D.mod (.int down) (.int 2) = some (.int ((down : Int) % 2)) := d_mod _ _ (by decide)
  by_cases hx : (i : Int) = m
  · have := fin .s
    simpa [hs0, hm, hmod, hx, Side.str] using this
  · have := fin s0
    simpa [hs0, hm, hmod, hx] using this
theorem floor_okD {sd : D} {cf : Nat → Int} (hS : ∀ k : Nat, f__law_cell [sd, .int k] = .ok (.int (cf k))) (k : Nat) (hk : k ≤ 1000) : ∃ f : Fl, f.Ok ∧ f__law_floor [sd, .int k] = .ok f.enc := by
  obtain ⟨W, hWe⟩ : ∃ W : Nat, 1 + cf k % 6 = (W : Int) := ⟨(1 + cf k % 6).toNat, by have := Int.emod_nonneg (cf k) (show (6 : Int) ≠ 0 by decide); omega⟩
  obtain ⟨H, hHe⟩ : ∃ H : Nat, 1 + cf (k + 1) % 5 = (H : Int) := ⟨(1 + cf (k + 1) % 5).toNat, by have := Int.emod_nonneg (cf (k + 1)) (show (5 : Int) ≠ 0 by decide); omega⟩
  have hW1 : 1 ≤ W := by have := Int.emod_nonneg (cf k) (show (6 : Int) ≠ 0 by decide); omega
  have hW6 : W ≤ 6 := by have := Int.emod_lt_of_pos (cf k) (show (0 : Int) < 6 by decide); omega
  have hH1 : 1 ≤ H := by have := Int.emod_nonneg (cf (k + 1)) (show (5 : Int) ≠ 0 by decide); omega
  have hH5 : H ≤ 5 := by have := Int.emod_lt_of_pos (cf (k + 1)) (show (0 : Int) < 5 by decide); omega
  have e1 := cell_eqD hS (j := (k : Int) + 1) (by omega)
  have e3 := cell_eqD hS (j := (k : Int) + 3) (by omega)
  rw [show ((k : Int) + 1).toNat = k + 1 from by omega] at e1
  rw [show ((k : Int) + 3).toNat = k + 3 from by omega] at e3
  simp only [f__law_floor, runM, b__law_floor, startE]
  simp [hS, e1, d_mod, hWe, hHe, rg1_nat (show H ≤ 1000000 by omega)]
  generalize hX : forD _ _ _ _ _ = X
  obtain ⟨ρ', rfl, cs, hl, hc, rfl⟩ := inv_of hX (fun i ρ => ∃ cs : List Cell, cs.length = i * W ∧ (∀ c ∈ cs, c.Ok) ∧ ρ = [some (.val (sd)), some (.val (.int k)), some (.val (.int W)), some (.val (.int H)), some (.own (.lst (cs.map Cell.enc))), none, none, none, none, none])
    ⟨[], by simp, by simp, rfl⟩ fun i d ρ hd hp => by
      obtain ⟨hi, rfl⟩ := nats_range_get hd
      obtain ⟨cs, hl, hc, rfl⟩ := hp
      rw [turn_one]
      simp [rg1_nat (show W ≤ 1000000 by omega)]
      generalize hY : forD _ _ _ _ _ = Y
      obtain ⟨ρ', rfl, cs', hl', hc', rfl⟩ := inv_of hY (fun j ρ => ∃ cs : List Cell, cs.length = i * W + j ∧ (∀ c ∈ cs, c.Ok) ∧ ρ = [some (.val (sd)), some (.val (.int k)), some (.val (.int W)), some (.val (.int H)), some (.own (.lst (cs.map Cell.enc))), some (.val (.int i)), none, none, none, none])
        ⟨cs, hl, hc, rfl⟩ fun j d ρ hd hp => by
          obtain ⟨hj, rfl⟩ := nats_range_get hd
          exact floor_turn hS k W H i hW1 hW6 (by omega) hk hj hp
      simp at hl'
      refine ⟨_, rfl, cs', by rw [hl', Nat.succ_mul], hc', ?_⟩
      simp
  simp at hl
  have fin : ∀ cs' : List Cell, cs'.length = H * W → (∀ c ∈ cs', c.Ok) → (⟨W, H, cs'⟩ : Fl).Ok := fun cs' h1 h2 => ⟨hW1, hW6, hH1, hH5, by rw [h1]; exact Nat.mul_comm _ _, h2⟩
  have hpos : 0 < cs.length := by rw [hl]; exact Nat.mul_pos (by omega) (by omega)
  by_cases hA : cf (k + 3) % 2 = 0
  · obtain ⟨w, hw⟩ : ∃ w : Nat, 1 + cf (k + 3) / 2 % 3 = (w : Int) ∧ 1 ≤ w ∧ w ≤ 3 := ⟨(1 + cf (k + 3) / 2 % 3).toNat, by
      have := Int.emod_nonneg (cf (k + 3) / 2) (show (3 : Int) ≠ 0 by decide)
      have := Int.emod_lt_of_pos (cf (k + 3) / 2) (show (0 : Int) < 3 by decide)
      omega⟩
    refine ⟨⟨W, H, (cs.set 0 (.well .e 0 w)).set (cs.length - 1) .fin⟩, fin _ (by simp [hl]) (fun c hm => ?_), ?_⟩
    · rcases List.mem_or_eq_of_mem_set hm with hm | rfl
      · rcases List.mem_or_eq_of_mem_set hm with hm | rfl
        · exact hc c hm
        · exact ⟨by decide, hw.2.1, by omega⟩
      · trivial
    · have hs0 := setAt_l (ds := cs.map Cell.enc) (k := 0) (by simpa using hpos) (.tup [.str "well", .str "e", .str "a", .int w])
      have hs1 := setAt_last (ds := (cs.map Cell.enc).set 0 (.tup [.str "well", .str "e", .str "a", .int w])) (by simpa using hpos) (.tup [.str "end"])
      simp at hs0 hs1
      simp [e3, d_mod, d_fdiv, hA, hw.1, hs0, hs1, bTuple, Fl.enc]
      rw [show (Cell.well Side.e 0 w).enc = D.tup [.str "well", .str "e", .str "a", .int w] from by with_unfolding_all rfl]
      rfl
  · refine ⟨⟨W, H, cs⟩, fin cs hl hc, ?_⟩
    simp [e3, d_mod, hA, Fl.enc, bTuple]
theorem floor_ok (ns : List Int) (k : Nat) (hk : k ≤ 1000) : ∃ f : Fl, f.Ok ∧ f__law_floor [.scr ns, .int k] = .ok f.enc := floor_okD (cell_eq ns) k hk
end L2.Pv.Lw

set_option maxRecDepth 100000
set_option maxHeartbeats 1000000
set_option linter.all false
set_option Elab.async false
set_option autoImplicit false
namespace L2.Pv.Lw
open PySem PySem.Spec PyProof.Rows L2.Pv
theorem is_side_eq (s : Side) : f_is_side [.str s.str] = .ok (.bl true) := by
  simp only [f_is_side, runM, b_is_side, startE]
  cases s <;> simp [D.tyN, isTy, Side.str]
theorem is_kind_eq {k : Nat} (h : k < 3) : f_is_kind [.str (kindS k)] = .ok (.bl true) := by
  simp only [f_is_kind, runM, b_is_kind, startE]
  have : k = 0 ∨ k = 1 ∨ k = 2 := by omega
  rcases this with h | h | h <;> subst h <;> with_unfolding_all rfl
theorem is_cell_eq {c : Cell} (h : c.Ok) : f_is_cell [c.enc] = .ok (.bl true) := by
  simp only [f_is_cell, runM, b_is_cell, startE]
  cases c with
  | wall => simp [Cell.enc, D.tyN, isTy]
  | fin => simp [Cell.enc, D.tyN, isTy]
  | belt s => simp [Cell.enc, D.tyN, isTy, is_side_eq]
  | parter s t =>
    have : s.str ≠ t.str := fun e => h (Side.str_inj e)
    simp [Cell.enc, D.tyN, isTy, is_side_eq, this]
  | well s k w =>
    have h1 := h.2.1; have h2 := h.2.2
    simp [Cell.enc, D.tyN, isTy, is_side_eq, is_kind_eq h.1, within_eq]
    omega
theorem is_floor_eq {f : Fl} (ok : f.Ok) : f_is_floor [f.enc] = .ok (.bl true) := by
  have w1 := ok.w1; have w6 := ok.w6; have h1 := ok.h1; have h5 := ok.h5; have hl := ok.len
  have hs := Fl.size_le ok
  unfold Fl.size at hs
  have hm : D.mul (.int f.wide) (.int f.high) = some (.int (f.wide * f.high)) := d_mul _ _ (.inr (by simp [smallI]; omega))
  simp only [f_is_floor, runM, b_is_floor, startE, Fl.enc]
  have a1 : (1 : Int) ≤ f.wide ∧ (f.wide : Int) ≤ 6 := by omega
  have a2 : (1 : Int) ≤ f.high ∧ (f.high : Int) ≤ 5 := by omega
  simp [D.tyN, isTy, within_eq, a1, a2, hm, hl]
  rw [if_pos (le_lim (by rw [← hl]; omega)), compD_fm Cell.enc (fun _ => false) Cell.enc f.cells fun c hc => ⟨_, rfl, by simp [is_cell_eq (ok.ok c hc)], fun h => by cases h⟩]
  simp
theorem look_eq {f : Fl} (ok : f.Ok) : f_look [f.enc] = .ok .non := by
  simp only [f_look, runM, b_look, startE]
  simp [is_floor_eq ok]
end L2.Pv.Lw

set_option maxRecDepth 100000
set_option maxHeartbeats 1000000
set_option linter.all false
set_option Elab.async false
set_option autoImplicit false
namespace L2.Pv.Lw
open PySem PySem.Spec PyProof.Rows L2.Pv
theorem look_cell_eq {f : Fl} (ok : f.Ok) {c : Nat} (h : c < f.size) : f_look_cell [f.enc, .int c] = .ok .non := by
  have hz : f.cells.length = f.size := rfl
  simp only [f_look_cell, runM, b_look_cell, startE]
  simp [look_eq ok, within_eq, hz, show (c : Int) ≤ f.size - 1 by omega]
theorem get_range {n i : Nat} (h : i < n) (g : Nat → D) : ((List.range n).map g)[i]? = some (g i) := by
  rw [List.getElem?_map, List.getElem?_range h]; rfl
end L2.Pv.Lw

set_option maxRecDepth 100000
set_option maxHeartbeats 1000000
set_option linter.all false
set_option Elab.async false
set_option autoImplicit false
namespace L2.Pv.Lw
open PySem PySem.Spec PyProof.Rows L2.Pv
theorem cut_mid {ds : List D} {a b : Nat} (h : a + b ≤ ds.length) : cutD ds (some (a : Int)) (some ((a : Int) + b)) = (ds.drop a).take b := by
  have e1 : HT.sIx ds.length 0 (some (a : Int)) = a := by
    unfold HT.sIx
    simp
    rw [if_neg (by omega)]
    omega
  have e2 : HT.sIx ds.length ds.length (some ((a : Int) + b)) = a + b := by
    unfold HT.sIx
    simp
    rw [if_neg (by omega)]
    omega
  unfold cutD
  rw [e1, e2, Nat.add_sub_cancel_left]
def bookD (σ : Side → Side) : D := .dct false [(.str "n", .str (σ .n).str), (.str "e", .str (σ .e).str), (.str "s", .str (σ .s).str), (.str "w", .str (σ .w).str)]
theorem book_idx (σ : Side → Side) (s : Side) : D.idx (bookD σ) (.str s.str) = some (.str (σ s).str) := by
  show D.find _ _ = _
  cases s <;> simp [D.find, Side.str, same_lit]
theorem led_eq (σ : Side → Side) (c : Cell) : f_led [c.enc, bookD σ] = .ok (c.led σ).enc := by
  rw [f_led, runM_q, b_led, startE_q]
  have hs : ∀ (a : D) (ds : List D), D.slice (.tup (a :: ds)) none (some 1) = some (.tup [a]) := fun a ds => by
    show some (D.tup _) = _
    rw [show (some 1 : Option Int) = some ((1 : Nat) : Int) from rfl, cut_take (by simp)]
    rfl
  have hd : ∀ (a : D) (ds : List D), D.slice (.tup (a :: ds)) (some 1) none = some (.tup ds) := fun a ds => by
    show some (D.tup _) = _
    rw [show (some 1 : Option Int) = some ((1 : Nat) : Int) from rfl, cut_drop (by simp)]
    rfl
  have h2 : ∀ (a b : D) (ds : List D), D.slice (.tup (a :: b :: ds)) (some 2) none = some (.tup ds) := fun a b ds => by
    show some (D.tup _) = _
    rw [show (some 2 : Option Int) = some ((2 : Nat) : Int) from rfl, cut_drop (by simp)]
    rfl
  have l1 : 1 ≤ lim := le_lim (by decide)
  have l2 : 2 ≤ lim := le_lim (by decide)
  have l3 : 3 ≤ lim := le_lim (by decide)
  have l4 : 4 ≤ lim := le_lim (by decide)
  have ht : ∀ ds, bTuple [.lst ds] = some (.tup ds) := fun _ => rfl
  have ha : ∀ xs ys : List D, xs.length + ys.length ≤ 4 → D.add (.tup xs) (.tup ys) = some (.tup (xs ++ ys)) := fun xs ys h => by
    show (if _ then _ else _) = _
    rw [if_pos (le_lim (by omega))]
  cases c with
  | wall => simp [Cell.enc, Cell.led]
  | fin => simp [Cell.enc, Cell.led]
  | belt s => simp [Cell.enc, Cell.led, hs, hd, compD, book_idx, ht, ha, l1]
  | parter s t => simp [Cell.enc, Cell.led, hs, hd, compD, book_idx, ht, ha, l2]
  | well s k w => simp [Cell.enc, Cell.led, h2, book_idx, ha, l4]
theorem x_tup_fl (f : Fl) (i j k : Nat) (ρ : Env) : gTupM [i, j, k] ρ f.enc = some (setAll ρ [i, j, k] [.int f.wide, .int f.high, .tup (f.cells.map Cell.enc)]) := by
  unfold Fl.enc
  simp
theorem row_rev {f : Fl} (ok : f.Ok) {i : Nat} (hi : i < f.high) : ((f.cells.drop (i * f.wide)).take f.wide).reverse.map (fun c => (c.led Side.mir)) = (List.range f.wide).map fun x => (f.at (f.mx (i * f.wide + x))).led Side.mir := by
  have hl : f.cells.length = f.wide * f.high := ok.len
  have hb : (i + 1) * f.wide ≤ f.high * f.wide := Nat.mul_le_mul_right _ hi
  rw [Nat.add_mul, Nat.one_mul, Nat.mul_comm f.high, ← hl] at hb
  have h1 : ((f.cells.drop (i * f.wide)).take f.wide).length = f.wide := by rw [List.length_take, List.length_drop]; omega
  refine List.ext_getElem (by simp [h1]; omega) fun x a b => ?_
  have hx : x < f.wide := by simpa using b
  rw [List.getElem_map, List.getElem_map, List.getElem_range, mx_pt hx, List.getElem_reverse, List.getElem_take, List.getElem_drop]
  congr 1
  have hy : i * f.wide + (f.wide - 1 - x) < f.size := by show _ < f.cells.length; omega
  have := Fl.get hy
  rw [List.getElem?_eq_getElem hy] at this
  have this := Option.some.inj this
  rw [← this]
  congr 1
  rw [h1]
theorem mirrored_eq {f : Fl} (ok : f.Ok) : f_mirrored [f.enc] = .ok f.mir.enc := by
  have w6 := ok.w6
  have h5 := ok.h5
  have w1 := ok.w1
  have hl : f.cells.length = f.wide * f.high := ok.len
  have hs := Fl.size_le ok
  rw [f_mirrored, runM_q, b_mirrored, startE_q]
  simp [look_eq ok, x_tup_fl, setAll, rg1_nat (show f.high ≤ 1000000 by omega)]
  generalize hX : forD _ _ _ _ _ = X
  obtain ⟨ρ', rfl, hρ⟩ := inv_of hX (fun i ρ => ρ = [some (.val f.enc), some (.val (.int f.wide)), some (.val (.int f.high)), some (.val (.tup (f.cells.map Cell.enc))), some (.own (.lst (((List.range (i * f.wide)).map fun c => (f.at (f.mx c)).led Side.mir).map Cell.enc))), none, none])
    (by simp) fun i d ρ hd hp => by
      obtain ⟨hi, rfl⟩ := nats_range_get hd
      subst hp
      have hb : (i + 1) * f.wide ≤ f.high * f.wide := Nat.mul_le_mul_right _ hi
      rw [Nat.add_mul, Nat.one_mul, Nat.mul_comm f.high, ← hl] at hb
      have hz : f.cells.length = f.size := rfl
      have hsl : D.slice (.tup (f.cells.map Cell.enc)) (some ((i : Int) * f.wide)) (some ((i : Int) * f.wide + f.wide)) = some (.tup (((f.cells.drop (i * f.wide)).take f.wide).map Cell.enc)) := by
        show some (D.tup _) = _
        rw [← Int.natCast_mul, cut_mid (by rw [List.length_map]; exact hb), List.map_take, List.map_drop]
      have hlen : ((f.cells.drop (i * f.wide)).take f.wide).length = f.wide := by rw [List.length_take, List.length_drop]; omega
      have hrow := row_rev ok hi
      obtain ⟨r, hr⟩ : ∃ r, r = (f.cells.drop (i * f.wide)).take f.wide := ⟨_, rfl⟩
      rw [← hr] at hsl hlen hrow
      have hcomp := fun L : D => compD_map (gm := gOne 6) (me := eCall f_led [(eV 6), (eK (.dct false [(.str "n", .str "n"), (.str "e", .str "w"), (.str "s", .str "s"), (.str "w", .str "e")]))]) (ρ := [some (.val f.enc), some (.val (.int f.wide)), some (.val (.int f.high)), some (.val (.tup (f.cells.map Cell.enc))), some (.own L), some (.val (.int i)), none]) Cell.enc (fun c => (c.led Side.mir).enc) r.reverse fun c _ => ⟨_, rfl, by
        simp
        exact led_eq Side.mir c⟩
      have hnext : (List.range ((i + 1) * f.wide)).map (fun c => (f.at (f.mx c)).led Side.mir) = ((List.range (i * f.wide)).map fun c => (f.at (f.mx c)).led Side.mir) ++ r.reverse.map fun c => c.led Side.mir := by
        rw [hrow, Nat.add_mul, Nat.one_mul, List.range_add, List.map_append, List.map_map]
        rfl
      have hlL : ((List.range (i * f.wide)).map fun c => (f.at (f.mx c)).led Side.mir).length = i * f.wide := by simp
      refine ⟨_, ?_, rfl⟩
      rw [turn_one, hnext, List.map_append]
      generalize ((List.range (i * f.wide)).map fun c => (f.at (f.mx c)).led Side.mir) = L at hlL
      rw [List.map_reverse] at hcomp
      simp [mul_w ok, hsl, hlen, hcomp, hlL, show f.wide ≤ lim from le_lim (by omega), show i * f.wide + f.wide ≤ lim from le_lim (by omega)]
  subst hρ
  rw [nats_len, List.length_range]
  simp [bTuple]
  unfold Fl.mir Fl.enc
  rw [Nat.mul_comm f.wide f.high]
  simp
end L2.Pv.Lw

set_option maxRecDepth 100000
set_option maxHeartbeats 1000000
set_option linter.all false
set_option Elab.async false
set_option autoImplicit false
namespace L2.Pv.Lw
open PySem PySem.Spec PyProof.Rows L2.Pv
def trnC (f : Fl) (c : Nat) : Cell := (f.at ((f.high - 1 - c % f.high) * f.wide + c / f.high)).led Side.rgt
theorem rg3_down {n : Nat} (h1 : 1 ≤ n) (h : n ≤ 1000) : rg3 [.int ((n : Int) - 1), .int (-1), .int (-1)] = some ((List.range n).map fun k : Nat => D.int ((n - 1 - k : Nat) : Int)) := by
  show (if _ then _ else _) = _
  rw [if_pos (by simp; omega)]
  rw [show ((n : Int) - 1 - -1).toNat = n by omega]
  refine congrArg some (List.map_congr_left fun k hk => ?_)
  have := List.mem_range.mp hk
  rw [show ((n - 1 - k : Nat) : Int) = (n : Int) - 1 - k by omega]
theorem turned_eq {f : Fl} (ok : f.Ok) (hw5 : f.wide ≤ 5) : f_turned [f.enc] = .ok f.trn.enc := by
  have w6 := ok.w6
  have h5 := ok.h5
  have w1 := ok.w1
  have h1 := ok.h1
  have hl : f.cells.length = f.wide * f.high := ok.len
  have hs := Fl.size_le ok
  rw [f_turned, runM_q, b_turned, startE_q]
  have g1 : ¬ (6 : Int) < f.high := by omega
  have g2 : ¬ (5 : Int) < f.wide := by omega
  simp [look_eq ok, x_tup_fl, setAll, rg1_nat (show f.wide ≤ 1000000 by omega), g1, g2]
  generalize hX : forD _ _ _ _ _ = X
  obtain ⟨ρ', rfl, hρ⟩ := inv_of hX (fun i ρ => ρ = [some (.val f.enc), some (.val (.int f.wide)), some (.val (.int f.high)), some (.val (.tup (f.cells.map Cell.enc))), some (.own (.lst (((List.range (i * f.high)).map (trnC f)).map Cell.enc))), none, none])
    (by simp) fun i d ρ hd hp => by
      obtain ⟨hi, rfl⟩ := nats_range_get hd
      subst hp
      have hb : (i + 1) * f.high ≤ f.wide * f.high := Nat.mul_le_mul_right _ hi
      rw [Nat.add_mul, Nat.one_mul, ← hl] at hb
      have hz : f.cells.length = f.size := rfl
      have hcomp := fun L : D => compD_map (gm := gOne 6) (me := eCall f_led [(eOp D.idx (eV 3) (eOp D.add (eOp D.mul (eV 6) (eV 1)) (eV 5))), (eK (.dct false [(.str "n", .str "e"), (.str "e", .str "s"), (.str "s", .str "w"), (.str "w", .str "n")]))]) (ρ := [some (.val f.enc), some (.val (.int f.wide)), some (.val (.int f.high)), some (.val (.tup (f.cells.map Cell.enc))), some (.own L), some (.val (.int i)), none]) (fun k : Nat => D.int ((f.high - 1 - k : Nat) : Int)) (fun k => (trnC f (i * f.high + k)).enc) (List.range f.high) fun k hk => ⟨_, rfl, by
        have hk := List.mem_range.mp hk
        have hlt : (f.high - 1 - k) * f.wide + i < f.size := by rw [size_wh ok]; exact pt_lt hi (by omega)
        have hc := Fl.cell hlt
        rw [Int.natCast_add, Int.natCast_mul] at hc
        simp [mul_w ok, hc]
        have := led_eq Side.rgt (f.at ((f.high - 1 - k) * f.wide + i))
        unfold trnC
        rw [pt_mod i hk, pt_div i hk]
        exact this⟩
      have hnext : (List.range ((i + 1) * f.high)).map (trnC f) = ((List.range (i * f.high)).map (trnC f)) ++ (List.range f.high).map fun k => trnC f (i * f.high + k) := by
        rw [Nat.add_mul, Nat.one_mul, List.range_add, List.map_append, List.map_map]
        rfl
      have hlL : ((List.range (i * f.high)).map (trnC f)).length = i * f.high := by simp
      refine ⟨_, ?_, rfl⟩
      rw [turn_one, hnext, List.map_append]
      generalize ((List.range (i * f.high)).map (trnC f)) = L at hlL
      simp [rg3_down h1 (show f.high ≤ 1000 by omega), hcomp, hlL, show f.high ≤ lim from le_lim (by omega), show i * f.high + f.high ≤ lim from le_lim (by omega)]
  subst hρ
  rw [nats_len, List.length_range]
  simp [bTuple]
  unfold Fl.trn Fl.enc
  rw [Nat.mul_comm f.wide f.high]
  simp
  exact fun _ _ => rfl
end L2.Pv.Lw

set_option maxRecDepth 100000
set_option maxHeartbeats 1000000
set_option linter.all false
set_option Elab.async false
set_option autoImplicit false
namespace L2.Pv.Lw
open PySem PySem.Spec PyProof.Rows L2.Pv
theorem index_abc17 {k : Nat} (h : k < 3) : mIndexS (.str "abc") [.str (kindS k)] = some (.int (k : Nat)) := by
  have : k = 0 ∨ k = 1 ∨ k = 2 := by omega
  rcases this with h | h | h <;> subst h <;> with_unfolding_all rfl
structure KindsOk (K : Str) (κ : Nat → Nat) : Prop where
  ix : ∀ k, k < 3 → D.idx (.str K) (.int (k : Nat)) = some (.str (kindS (κ k)))
  so : bSortT [.str K] = some (.lst [.str "a", .str "b", .str "c"])
  lt : ∀ k, k < 3 → κ k < 3
  inj : ∀ a b, a < 3 → b < 3 → κ a = κ b → a = b
theorem with_kinds_eq {f : Fl} (ok : f.Ok) {K : Str} {κ : Nat → Nat} (kk : KindsOk K κ) : f_with_kinds [f.enc, .str K] = .ok (f.rek κ).enc := by
  have hs := Fl.size_le ok
  have hz : f.cells.length = f.size := rfl
  have hne : D.ne (.lst [.str "a", .str "b", .str "c"]) (.lst [.str "a", .str "b", .str "c"]) = some (.bl false) := d_ne_self (k := 1) (by simp [D.sh])
  rw [f_with_kinds, runM_q, b_with_kinds, startE_q]
  simp [look_eq ok, kk.so, hne, isTy, D.tyN]
  generalize hX : forD _ _ _ _ _ = X
  obtain ⟨ρ', rfl, hρ⟩ := inv_of hX (fun i ρ => ρ = [some (.val f.enc), some (.val (.str K)), some (.own (.lst (((f.cells.take i).map (Cell.rel κ)).map Cell.enc))), none])
    (by simp) fun i d ρ hd hp => by
      subst hp
      have hi : i < f.size := by have := (List.getElem?_eq_some_iff.mp hd).1; rwa [List.length_map] at this
      have hd' : d = (f.at i).enc := by
        rw [List.getElem?_map, Fl.get hi] at hd
        exact (Option.some.inj hd).symm
      subst hd'
      have hnext : f.cells.take (i + 1) = f.cells.take i ++ [f.at i] := by
        rw [List.take_succ, Fl.get hi]; rfl
      have hL : ((f.cells.take i).map (Cell.rel κ)).length = i := by rw [List.length_map, List.length_take]; omega
      have hok := Fl.at_ok ok i
      refine ⟨_, ?_, rfl⟩
      rw [turn_one, hnext, List.map_append, List.map_append]
      generalize (f.cells.take i).map (Cell.rel κ) = L at hL
      generalize f.at i = c at hok
      have hlim : i < lim := lt_lim (by omega)
      cases c with
      | well s k w =>
        have hk := hok.1
        simp [Cell.enc, Cell.rel, index_abc17 hk, kk.ix k hk, hL, hlim]
      | wall => simp [Cell.enc, Cell.rel, hL, hlim]
      | fin => simp [Cell.enc, Cell.rel, hL, hlim]
      | belt s => simp [Cell.enc, Cell.rel, hL, hlim]
      | parter s t => simp [Cell.enc, Cell.rel, hL, hlim]
  subst hρ
  simp [bTuple]
  unfold Fl.rek Fl.enc
  simp
theorem put_cell_eq {f : Fl} (ok : f.Ok) {c : Nat} (hc : c < f.size) {x : Cell} (hx : x.Ok) : f_put_cell [f.enc, .int (c : Nat), x.enc] = .ok (f.put c x).enc := by
  have hs := Fl.size_le ok
  have hz : f.cells.length = f.size := rfl
  have s1 : D.slice (.tup (f.cells.map Cell.enc)) none (some ((c : Nat) : Int)) = some (.tup ((f.cells.map Cell.enc).take c)) := by
    show some (D.tup _) = _
    rw [cut_take (by rw [List.length_map]; omega)]
  have s2 : D.slice (.tup (f.cells.map Cell.enc)) (some ((c : Nat) + 1 : Int)) none = some (.tup ((f.cells.map Cell.enc).drop (c + 1))) := by
    show some (D.tup _) = _
    rw [show ((c : Nat) + 1 : Int) = ((c + 1 : Nat) : Int) by omega, cut_drop (by rw [List.length_map]; omega)]
  have ha : ∀ xs ys : List D, xs.length + ys.length ≤ 100 → D.add (.tup xs) (.tup ys) = some (.tup (xs ++ ys)) := fun xs ys h => by
    show (if _ then _ else _) = _
    rw [if_pos (le_lim (by omega))]
  have a1 := ha ((f.cells.map Cell.enc).take c) [x.enc] (by simp; omega)
  have a2 := ha ((f.cells.map Cell.enc).take c ++ [x.enc]) ((f.cells.map Cell.enc).drop (c + 1)) (by simp; omega)
  have e : (f.cells.map Cell.enc).take c ++ [x.enc] ++ (f.cells.map Cell.enc).drop (c + 1) = (f.cells.set c x).map Cell.enc := by
    rw [set_cut (by rw [List.length_map]; exact hc), List.map_set]
  rw [e] at a2
  rw [f_put_cell, runM_q, b_put_cell, startE_q]
  generalize (f.cells.map Cell.enc).take c = u at *
  generalize (f.cells.map Cell.enc).drop (c + 1) = v at *
  simp [look_cell_eq ok hc, is_cell_eq hx, s1, s2, a1, a2]
  unfold Fl.put Fl.enc
  simp
end L2.Pv.Lw

set_option maxRecDepth 100000
set_option maxHeartbeats 1000000
set_option linter.all false
set_option Elab.async false
set_option autoImplicit false
namespace L2.Pv.Lw
open PySem PySem.Spec PyProof.Rows L2.Pv
def reK (κ : Nat → Nat) (p : (Nat × Nat) × Nat) : (Nat × Nat) × Nat := ((p.1.1, κ p.1.2), p.2)
theorem nd_fst {C : Cnt} (h : (C.map (·.1)).Nodup) : C.Nodup := by
  rw [List.nodup_iff_pairwise_ne] at h ⊢
  rw [List.pairwise_map] at h
  exact h.imp fun hne e => hne (by rw [e])
theorem kind_perm {f : Fl} (ok : f.Ok) {K : Str} {κ μ : Nat → Nat} (kk : KindsOk K κ) (mk : ∀ k, k < 3 → μ k < 3 ∧ κ (μ k) = k) (n : Nat) : ((f.runN n (f.zero, [])).2.map (reK κ)).Perm ((f.rek κ).runN n ((f.rek κ).zero, [])).2 := by
  have og := rek_ok ok kk.lt
  have E := rek_emb ok kk.lt kk.inj
  have S := zero_ok f
  have T := zero_ok (f.rek κ)
  have M := sim_zero f (f.rek κ) id κ
  have C1 := (runN_ok ok n (run_zero S)).1.c
  have C2 := (runN_ok og n (run_zero T)).1.c
  have n1 : ((f.runN n (f.zero, [])).2.map (reK κ)).Nodup := by
    have h := nd_fst C1.nd
    rw [List.nodup_iff_pairwise_ne, List.pairwise_map]
    refine h.imp_of_mem fun {a b} ha hb hne e => hne ?_
    have ka := (C1.ok a ha).2
    have kb := (C1.ok b hb).2
    have e : ((a.1.1, κ a.1.2), a.2) = ((b.1.1, κ b.1.2), b.2) := e
    injection e with e0 e3
    injection e0 with e1 e2
    exact Prod.ext (Prod.ext e1 (kk.inj _ _ ka kb e2)) e3
  refine (List.perm_ext_iff_of_nodup n1 (nd_fst C2.nd)).mpr fun p => ?_
  rw [mem_runN og T, List.mem_map]
  constructor
  · rintro ⟨q, hq, rfl⟩
    obtain ⟨h1, h2⟩ := (mem_runN ok S n).mp hq
    have hc := C1.ok q hq
    have := sim_cnt E M S T (c := q.1.1) (k := q.1.2) hc.1 hc.2 n
    refine ⟨?_, h2⟩
    show q.2 = (f.rek κ).cnt (f.rek κ).zero (id q.1.1, κ q.1.2) n
    rw [this, h1]
  · rintro ⟨h1, h2⟩
    rw [h1] at h2
    obtain ⟨a1, a2, _⟩ := cnt_in og T n h2
    rw [rek_size ok kk.lt] at a1
    obtain ⟨m1, m2⟩ := mk _ a2
    have := sim_cnt E M S T (c := p.1.1) (k := μ p.1.2) a1 m1 n
    rw [m2] at this
    have this : (f.rek κ).cnt (f.rek κ).zero p.1 n = f.cnt f.zero (p.1.1, μ p.1.2) n := this
    refine ⟨((p.1.1, μ p.1.2), p.2), (mem_runN ok S n).mpr ⟨by rw [h1, this], by rw [h1]; exact h2⟩, ?_⟩
    unfold reK
    dsimp only
    rw [m2]
theorem rest_same {f : Fl} (ok : f.Ok) {K : Str} {κ : Nat → Nat} (kk : KindsOk K κ) (n : Nat) : ((f.rek κ).nextN n (f.rek κ).zero).turns = (f.nextN n f.zero).turns ∧ ((f.rek κ).nextN n (f.rek κ).zero).waits = (f.nextN n f.zero).waits := by
  have og := rek_ok ok kk.lt
  have S := nextN_ok ok n (zero_ok f)
  have T := nextN_ok og n (zero_ok (f.rek κ))
  have M := sim_orb (rek_emb ok kk.lt kk.inj) (sim_zero f (f.rek κ) id κ) n
  have sz := rek_size (f := f) ok kk.lt
  have ext : ∀ {l m : List Nat}, l.length = f.size → m.length = f.size → (∀ c, c < f.size → l.getD c 0 = m.getD c 0) → l = m := fun {l m} h1 h2 h => List.ext_getElem (h1.trans h2.symm) fun c a b => by
    have := h c (by omega)
    rw [List.getD_eq_getElem?_getD, List.getD_eq_getElem?_getD, List.getElem?_eq_getElem a, List.getElem?_eq_getElem b] at this
    exact this
  exact ⟨ext (T.l2.trans sz) S.l2 fun c hc => M.tu c hc, ext (T.l3.trans sz) S.l3 fun c hc => M.wa c hc⟩
theorem slice_state (s : Sta) : D.slice s.enc (some 1) none = some (.tup [.tup (nats s.turns), .tup (nats s.waits)]) := by
  show some (D.tup _) = _
  rw [show (some 1 : Option Int) = some ((1 : Nat) : Int) from rfl, cut_drop (by simp)]
  rfl
def backE : EM := eMet D.isStr mJoin (eK (.str "")) [(eLc [16] (gOne 16) (iV (eK (.str "abc"))) pYes (eOp D.idx (eK (.str "abc")) (eMet D.isStr mIndexS (eV 9) [(eV 16)])))]
structure KindsAll (K B : Str) (κ μ : Nat → Nat) : Prop where
  k : KindsOk K κ
  b : KindsOk B μ
  mu : ∀ k, k < 3 → μ (κ k) = k
  km : ∀ k, k < 3 → κ (μ k) = k
  back : ∀ a0 a1 a2 a3 a4 a5 a6 a7 a8 b0 b1 b2 b3 b4 b5 b6 b7 : Option Sl, backE [a0, a1, a2, a3, a4, a5, a6, a7, a8, some (.val (.str K)), b0, b1, b2, b3, b4, b5, b6, b7] = .ok (.str B)
def tab3 (a b c : Nat) (k : Nat) : Nat := if k = 0 then a else if k = 1 then b else c
theorem lt3 {k : Nat} {P : Nat → Prop} (h : k < 3) (h0 : P 0) (h1 : P 1) (h2 : P 2) : P k := by
  have : k = 0 ∨ k = 1 ∨ k = 2 := by omega
  rcases this with h | h | h <;> subst h <;> assumption
theorem kindsOk_of {K : Str} {a b c : Nat} (i0 : D.idx (.str K) (.int (0 : Nat)) = some (.str (kindS a))) (i1 : D.idx (.str K) (.int (1 : Nat)) = some (.str (kindS b))) (i2 : D.idx (.str K) (.int (2 : Nat)) = some (.str (kindS c)))
    (so : bSortT [.str K] = some (.lst [.str "a", .str "b", .str "c"])) (h : a < 3 ∧ b < 3 ∧ c < 3 ∧ a ≠ b ∧ a ≠ c ∧ b ≠ c) : KindsOk K (tab3 a b c) := by
  refine ⟨fun k hk => lt3 (P := fun k => D.idx (.str K) (.int (k : Nat)) = some (.str (kindS (tab3 a b c k)))) hk i0 i1 i2, so, fun k hk => lt3 (P := fun k => tab3 a b c k < 3) hk h.1 h.2.1 h.2.2.1, fun x y hx hy => ?_⟩
  have hx' : x = 0 ∨ x = 1 ∨ x = 2 := by omega
  have hy' : y = 0 ∨ y = 1 ∨ y = 2 := by omega
  obtain ⟨_, _, _, h1, h2, h3⟩ := h
  rcases hx' with e | e | e <;> rcases hy' with e' | e' | e' <;> subst e <;> subst e' <;> simp [tab3] <;> omega
theorem kinds_all (j : Int) (h : 0 ≤ j) (h6 : j < 6) : ∃ K B κ μ, D.idx (.lst [.str "abc", .str "acb", .str "bac", .str "bca", .str "cab", .str "cba"]) (.int j) = some (.str K) ∧ KindsAll K B κ μ := by
  have mk : ∀ {a b c x y z : Nat}, tab3 x y z a = 0 ∧ tab3 x y z b = 1 ∧ tab3 x y z c = 2 → ∀ k, k < 3 → tab3 x y z (tab3 a b c k) = k := fun {a b c x y z} h k hk => lt3 (P := fun k => tab3 x y z (tab3 a b c k) = k) hk h.1 h.2.1 h.2.2
  have : j = 0 ∨ j = 1 ∨ j = 2 ∨ j = 3 ∨ j = 4 ∨ j = 5 := by omega
  rcases this with e | e | e | e | e | e <;> subst e
  · exact ⟨"abc", "abc", tab3 0 1 2, tab3 0 1 2, by kernel_rfl, ⟨kindsOk_of (by kernel_rfl) (by kernel_rfl) (by kernel_rfl) (by kernel_rfl) (by decide), kindsOk_of (by kernel_rfl) (by kernel_rfl) (by kernel_rfl) (by kernel_rfl) (by decide), mk (by decide), mk (by decide), by intros; kernel_rfl⟩⟩
  · exact ⟨"acb", "acb", tab3 0 2 1, tab3 0 2 1, by kernel_rfl, ⟨kindsOk_of (by kernel_rfl) (by kernel_rfl) (by kernel_rfl) (by kernel_rfl) (by decide), kindsOk_of (by kernel_rfl) (by kernel_rfl) (by kernel_rfl) (by kernel_rfl) (by decide), mk (by decide), mk (by decide), by intros; kernel_rfl⟩⟩
  · exact ⟨"bac", "bac", tab3 1 0 2, tab3 1 0 2, by kernel_rfl, ⟨kindsOk_of (by kernel_rfl) (by kernel_rfl) (by kernel_rfl) (by kernel_rfl) (by decide), kindsOk_of (by kernel_rfl) (by kernel_rfl) (by kernel_rfl) (by kernel_rfl) (by decide), mk (by decide), mk (by decide), by intros; kernel_rfl⟩⟩
  · exact ⟨"bca", "cab", tab3 1 2 0, tab3 2 0 1, by kernel_rfl, ⟨kindsOk_of (by kernel_rfl) (by kernel_rfl) (by kernel_rfl) (by kernel_rfl) (by decide), kindsOk_of (by kernel_rfl) (by kernel_rfl) (by kernel_rfl) (by kernel_rfl) (by decide), mk (by decide), mk (by decide), by intros; kernel_rfl⟩⟩
  · exact ⟨"cab", "bca", tab3 2 0 1, tab3 1 2 0, by kernel_rfl, ⟨kindsOk_of (by kernel_rfl) (by kernel_rfl) (by kernel_rfl) (by kernel_rfl) (by decide), kindsOk_of (by kernel_rfl) (by kernel_rfl) (by kernel_rfl) (by kernel_rfl) (by decide), mk (by decide), mk (by decide), by intros; kernel_rfl⟩⟩
  · exact ⟨"cba", "cba", tab3 2 1 0, tab3 2 1 0, by kernel_rfl, ⟨kindsOk_of (by kernel_rfl) (by kernel_rfl) (by kernel_rfl) (by kernel_rfl) (by decide), kindsOk_of (by kernel_rfl) (by kernel_rfl) (by kernel_rfl) (by kernel_rfl) (by decide), mk (by decide), mk (by decide), by intros; kernel_rfl⟩⟩
end L2.Pv.Lw

set_option maxRecDepth 100000
set_option maxHeartbeats 1000000
set_option linter.all false
set_option Elab.async false
set_option autoImplicit false
namespace L2.Pv.Lw
open PySem PySem.Spec PyProof.Rows L2.Pv
theorem law_led_eq {σ : Side → Side} {S : Str} (hS : D.dz (.str "nesw") (.str S) = some (bookD σ)) (c : Cell) : f__law_led [c.enc, .str S] = .ok (c.led σ).enc := by
  rw [f__law_led, runM_q, b__law_led, startE_q]
  have hs : ∀ (a : D) (ds : List D), D.slice (.tup (a :: ds)) none (some 1) = some (.tup [a]) := fun a ds => by
    show some (D.tup _) = _
    rw [show (some 1 : Option Int) = some ((1 : Nat) : Int) from rfl, cut_take (by simp)]
    rfl
  have hd : ∀ (a : D) (ds : List D), D.slice (.tup (a :: ds)) (some 1) none = some (.tup ds) := fun a ds => by
    show some (D.tup _) = _
    rw [show (some 1 : Option Int) = some ((1 : Nat) : Int) from rfl, cut_drop (by simp)]
    rfl
  have h2 : ∀ (a b : D) (ds : List D), D.slice (.tup (a :: b :: ds)) (some 2) none = some (.tup ds) := fun a b ds => by
    show some (D.tup _) = _
    rw [show (some 2 : Option Int) = some ((2 : Nat) : Int) from rfl, cut_drop (by simp)]
    rfl
  have l0 : 0 ≤ lim := le_lim (by decide)
  have l1 : 1 ≤ lim := le_lim (by decide)
  have l2 : 2 ≤ lim := le_lim (by decide)
  have l4 : 4 ≤ lim := le_lim (by decide)
  have ht : ∀ ds, bTuple [.lst ds] = some (.tup ds) := fun _ => rfl
  have ha : ∀ xs ys : List D, xs.length + ys.length ≤ 4 → D.add (.tup xs) (.tup ys) = some (.tup (xs ++ ys)) := fun xs ys h => by
    show (if _ then _ else _) = _
    rw [if_pos (le_lim (by omega))]
  cases c with
  | wall => simp [Cell.enc, Cell.led, hS, hs, hd, compD, ht, ha, l0]
  | fin => simp [Cell.enc, Cell.led, hS, hs, hd, compD, ht, ha, l0]
  | belt s => simp [Cell.enc, Cell.led, hS, hs, hd, compD, book_idx, ht, ha, l1]
  | parter s t => simp [Cell.enc, Cell.led, hS, hs, hd, compD, book_idx, ht, ha, l2]
  | well s k w => simp [Cell.enc, Cell.led, hS, h2, book_idx, ha, l4]
theorem book_mir : D.dz (.str "nesw") (.str "nwse") = some (bookD Side.mir) := by kernel_rfl
theorem book_rgt : D.dz (.str "nesw") (.str "eswn") = some (bookD Side.rgt) := by kernel_rfl
theorem mul_wh {f : Fl} (ok : f.Ok) : D.mul (.int f.wide) (.int f.high) = some (.int (f.size : Nat)) := by
  have w6 := ok.w6
  have h5 := ok.h5
  rw [d_mul _ _ (.inl (by simp [smallI]; omega)), size_wh ok, Int.natCast_mul]
theorem law_mirrored_eq {f : Fl} (ok : f.Ok) : f__law_mirrored [f.enc] = .ok f.mir.enc := by
  have w6 := ok.w6
  have w1 := ok.w1
  have hs := Fl.size_le ok
  rw [f__law_mirrored, runM_q, b__law_mirrored, startE_q]
  simp [x_tup_fl, setAll, mul_wh ok, rg1_nat (show f.size ≤ 1000000 by omega)]
  generalize hX : forD _ _ _ _ _ = X
  obtain ⟨ρ', rfl, hρ⟩ := inv_of hX (fun i ρ => ρ = [some (.val f.enc), some (.val (.int f.wide)), some (.val (.int f.high)), some (.val (.tup (f.cells.map Cell.enc))), some (.own (.lst (((List.range i).map fun c => (f.at (f.mx c)).led Side.mir).map Cell.enc))), none, none])
    rfl fun i d ρ hd hp => by
      obtain ⟨hi, rfl⟩ := nats_range_get hd
      subst hp
      have hm := Nat.mod_lt i (show 0 < f.wide by omega)
      have hmx : ((i : Int) / f.wide * f.wide + f.wide - 1 - (i : Int) % f.wide) = ((f.mx i : Nat) : Int) := by
        have h1 : ((i : Int) / f.wide) = ((i / f.wide : Nat) : Int) := rfl
        have h2 : ((i : Int) % f.wide) = ((i % f.wide : Nat) : Int) := rfl
        unfold Fl.mx
        rw [h1, h2, ← Int.natCast_mul]
        omega
      have hL : ((List.range i).map fun c => (f.at (f.mx c)).led Side.mir).length = i := by simp
      refine ⟨_, ?_, rfl⟩
      rw [turn_one, List.range_succ, List.map_append, List.map_append]
      generalize ((List.range i).map fun c => (f.at (f.mx c)).led Side.mir) = L at hL
      simp [div_w ok, mul_w ok, mod_w ok, hmx, Fl.cell (mx_lt ok hi), law_led_eq book_mir, hL, show i < lim from lt_lim (by omega)]
  subst hρ
  rw [nats_len, List.length_range]
  simp [bTuple]
  unfold Fl.mir Fl.enc
  rw [size_wh ok]
  simp
theorem law_turned_eq {f : Fl} (ok : f.Ok) : f__law_turned [f.enc] = .ok f.trn.enc := by
  have w6 := ok.w6
  have w1 := ok.w1
  have h5 := ok.h5
  have h1 := ok.h1
  have hs := Fl.size_le ok
  rw [f__law_turned, runM_q, b__law_turned, startE_q]
  simp [x_tup_fl, setAll, mul_wh ok, rg1_nat (show f.size ≤ 1000000 by omega)]
  generalize hX : forD _ _ _ _ _ = X
  obtain ⟨ρ', rfl, hρ⟩ := inv_of hX (fun i ρ => ρ = [some (.val f.enc), some (.val (.int f.wide)), some (.val (.int f.high)), some (.val (.tup (f.cells.map Cell.enc))), some (.own (.lst (((List.range i).map (trnC f)).map Cell.enc))), none, none, none])
    rfl fun i d ρ hd hp => by
      obtain ⟨hi, rfl⟩ := nats_range_get hd
      subst hp
      have hm := Nat.mod_lt i (show 0 < f.high by omega)
      have hdv : i / f.high < f.wide := Nat.div_lt_of_lt_mul (by rw [Nat.mul_comm, ← size_wh ok]; exact hi)
      have dv : D.fdiv (.int (i : Nat)) (.int f.high) = some (.int ((i / f.high : Nat) : Int)) := by rw [d_fdiv _ _ (by omega) (by omega)]; rfl
      have md : D.mod (.int (i : Nat)) (.int f.high) = some (.int ((i % f.high : Nat) : Int)) := by rw [d_mod _ _ (by omega)]; rfl
      have hsub : ((f.high : Int) - 1 - ((i % f.high : Nat) : Int)) = ((f.high - 1 - i % f.high : Nat) : Int) := by omega
      have hlt : (f.high - 1 - i % f.high) * f.wide + i / f.high < f.size := by rw [size_wh ok]; exact pt_lt hdv (by omega)
      have hc := Fl.cell hlt
      have hL : ((List.range i).map (trnC f)).length = i := by simp
      refine ⟨_, ?_, rfl⟩
      rw [turn_one, List.range_succ, List.map_append, List.map_append]
      generalize ((List.range i).map (trnC f)) = L at hL
      have he : trnC f i = (f.at ((f.high - 1 - i % f.high) * f.wide + i / f.high)).led Side.rgt := rfl
      generalize f.high - 1 - i % f.high = y at *
      generalize i / f.high = x at *
      generalize i % f.high = m at *
      rw [Int.natCast_add, Int.natCast_mul] at hc
      simp [dv, md, hsub, mul_w ok, hc, law_led_eq book_rgt, hL, he, show i < lim from lt_lim (by omega)]
  subst hρ
  rw [nats_len, List.length_range]
  simp [bTuple]
  unfold Fl.trn Fl.enc
  rw [size_wh ok, Nat.mul_comm f.wide f.high]
  simp
  exact fun _ _ => rfl
end L2.Pv.Lw

set_option maxRecDepth 100000
set_option maxHeartbeats 1000000
set_option linter.all false
set_option Elab.async false
set_option autoImplicit false
namespace L2.Pv.Lw
open PySem PySem.Spec PyProof.Rows L2.Pv
def rowF (f : Fl) (i : Nat) : List Cell := (f.cells.drop (i * f.wide)).take f.wide
def bes (f g : Fl) : Nat → List Cell
  | 0 => []
  | i + 1 => bes f g i ++ rowF f i ++ rowF g i
theorem rowF_len {f : Fl} (ok : f.Ok) {i : Nat} (hi : i < f.high) : (rowF f i).length = f.wide ∧ D.slice (.tup (f.cells.map Cell.enc)) (some ((i : Int) * f.wide)) (some ((i : Int) * f.wide + f.wide)) = some (.tup ((rowF f i).map Cell.enc)) := by
  have hl : f.cells.length = f.wide * f.high := ok.len
  have hb : (i + 1) * f.wide ≤ f.high * f.wide := Nat.mul_le_mul_right _ hi
  rw [Nat.add_mul, Nat.one_mul, Nat.mul_comm f.high, ← hl] at hb
  unfold rowF
  refine ⟨by rw [List.length_take, List.length_drop]; omega, ?_⟩
  show some (D.tup _) = _
  rw [← Int.natCast_mul, cut_mid (by rw [List.length_map]; exact hb), List.map_take, List.map_drop]
theorem bes_len {f g : Fl} (fo : f.Ok) (go : g.Ok) (hh : f.high = g.high) : ∀ i, i ≤ f.high → (bes f g i).length = i * (f.wide + g.wide)
  | 0, _ => by simp [bes]
  | i + 1, h => by
    show (bes f g i ++ rowF f i ++ rowF g i).length = _
    rw [List.length_append, List.length_append, bes_len fo go hh i (by omega), (rowF_len fo (show i < f.high by omega)).1, (rowF_len go (show i < g.high by omega)).1, Nat.add_mul, Nat.one_mul]
    omega
theorem add_tups (xs ys : List Cell) (h : xs.length + ys.length ≤ 100) : D.add (.tup (xs.map Cell.enc)) (.tup (ys.map Cell.enc)) = some (.tup ((xs ++ ys).map Cell.enc)) := by
  show (if _ then _ else _) = _
  rw [if_pos (le_lim (by rw [List.length_map, List.length_map]; omega)), List.map_append]
theorem bes_small {f g : Fl} (fo : f.Ok) (go : g.Ok) (hh : f.high = g.high) (hw : f.wide + g.wide ≤ 6) {i : Nat} (hi : i < f.high) : (bes f g i).length + (rowF f i).length + (rowF g i).length ≤ 100 := by
  rw [bes_len fo go hh i (by omega), (rowF_len fo hi).1, (rowF_len go (by omega)).1]
  have h5 := fo.h5
  have : i * (f.wide + g.wide) ≤ 5 * 6 := Nat.mul_le_mul (by omega) hw
  omega
theorem beside_one_eq {f g : Fl} (fo : f.Ok) (go : g.Ok) (hh : f.high = g.high) (hw : f.wide + g.wide ≤ 6) : f_beside_one [f.enc, g.enc] = .ok (.tup [.int ((f.wide : Int) + g.wide), .int f.high, .tup ((bes f g f.high).map Cell.enc)]) := by
  have h5 := fo.h5
  have nh : D.ne (.int f.high) (.int f.high) = some (.bl false) := d_ne_self (k := 1) (by simp [D.sh])
  rw [f_beside_one, runM_q, b_beside_one, startE_q]
  simp [look_eq fo, look_eq go, ← hh, nh, show ¬ (6 : Int) < (f.wide : Int) + g.wide by omega, rg1_nat (show f.high ≤ 1000000 by omega)]
  generalize hX : forD _ _ _ _ _ = X
  obtain ⟨ρ', rfl, hρ⟩ := inv_of hX (fun i ρ => ρ = [some (.val f.enc), some (.val g.enc), some (.val (.tup ((bes f g i).map Cell.enc))), none])
    rfl fun i d ρ hd hp => by
      obtain ⟨hi, rfl⟩ := nats_range_get hd
      subst hp
      have sm := bes_small fo go hh hw hi
      have s1 := (rowF_len fo hi).2
      have s2 := (rowF_len go (show i < g.high by omega)).2
      have a1 := add_tups (bes f g i) (rowF f i) (by omega)
      have a2 := add_tups (bes f g i ++ rowF f i) (rowF g i) (by rw [List.length_append]; omega)
      refine ⟨_, ?_, rfl⟩
      rw [turn_one]
      rw [show bes f g (i + 1) = bes f g i ++ rowF f i ++ rowF g i from rfl]
      simp [mul_w fo, mul_w go, s1, s2, a1, -List.map_append, -List.append_assoc, a2]
  subst hρ
  rw [nats_len, List.length_range]
  simp
theorem turned_ex {f : Fl} (ok : f.Ok) (h6 : f.wide = 6) : f_turned [f.enc] = .ex "BadCount" := by
  have h5 := ok.h5
  rw [f_turned, runM_q, b_turned, startE_q]
  simp [look_eq ok, x_tup_fl, setAll, h6, show ¬ (6 : Int) < f.high by omega]
theorem caught1 {f : Fl} (ok : f.Ok) (h6 : f.wide = 6) : f__law_caught [.int 1, .lst [f.enc]] = .ok (.str "count") := by
  have hc : f__law_called [.int 1, .lst [f.enc]] = .ex "BadCount" := by
    rw [f__law_called, runM_q, b__law_called, startE_q]
    simp [turned_ex ok h6]
  rw [f__law_caught, runM_q, b__law_caught, startE_q]
  simp [sTry, hc, excs, handM, subX, Out.noRs]
theorem beside_ex {f g : Fl} (fo : f.Ok) (go : g.Ok) (h : f.high ≠ g.high ∨ 6 < f.wide + g.wide) : f_beside_one [f.enc, g.enc] = .ex "BadCount" := by
  have ne : D.ne (.int f.high) (.int g.high) = some (.bl (!decide ((f.high : Int) = g.high))) := d_ne_cl rfl rfl (j := 1) (k := 1) (by simp [D.sh]) (by simp [D.sh]) (h := ⟨fun e => by injection e, fun e => by rw [e]⟩)
  rw [f_beside_one, runM_q, b_beside_one, startE_q]
  by_cases q : f.high = g.high
  · have : (6 : Int) < (f.wide : Int) + g.wide := by omega
    simp [look_eq fo, look_eq go, ne, q, this]
  · have q' : ¬ ((f.high : Int) = g.high) := by omega
    simp [look_eq fo, look_eq go, ne, q, q']
theorem caught2 {f g : Fl} (fo : f.Ok) (go : g.Ok) (h : f.high ≠ g.high ∨ 6 < f.wide + g.wide) : f__law_caught [.int 2, .lst [f.enc, g.enc]] = .ok (.str "count") := by
  have hc : f__law_called [.int 2, .lst [f.enc, g.enc]] = .ex "BadCount" := by
    rw [f__law_called, runM_q, b__law_called, startE_q]
    simp [beside_ex fo go h]
  rw [f__law_caught, runM_q, b__law_caught, startE_q]
  simp [sTry, hc, excs, handM, subX, Out.noRs]
end L2.Pv.Lw

set_option maxRecDepth 100000
set_option maxHeartbeats 1000000
set_option linter.all false
set_option Elab.async false
set_option autoImplicit false
namespace L2.Pv.Lw
open PySem PySem.Spec PyProof.Rows L2.Pv
theorem put_parts {f : Fl} (ok : f.Ok) {c : Nat} (hc : c < f.size) (x : Cell) : ∃ u v : List D, D.slice (.tup (f.cells.map Cell.enc)) none (some ((c : Nat) : Int)) = some (.tup u) ∧ D.slice (.tup (f.cells.map Cell.enc)) (some ((c : Nat) + 1 : Int)) none = some (.tup v) ∧
    D.add (.tup u) (.tup [x.enc]) = some (.tup (u ++ [x.enc])) ∧ D.add (.tup (u ++ [x.enc])) (.tup v) = some (.tup ((f.cells.set c x).map Cell.enc)) := by
  have hs := Fl.size_le ok
  have hz : f.cells.length = f.size := rfl
  have ha : ∀ xs ys : List D, xs.length + ys.length ≤ 100 → D.add (.tup xs) (.tup ys) = some (.tup (xs ++ ys)) := fun xs ys h => by
    show (if _ then _ else _) = _
    rw [if_pos (le_lim (by omega))]
  refine ⟨(f.cells.map Cell.enc).take c, (f.cells.map Cell.enc).drop (c + 1), ?_, ?_, ha _ _ (by simp; omega), ?_⟩
  · show some (D.tup _) = _
    rw [cut_take (by rw [List.length_map]; omega)]
  · show some (D.tup _) = _
    rw [show ((c : Nat) + 1 : Int) = ((c + 1 : Nat) : Int) by omega, cut_drop (by rw [List.length_map]; omega)]
  · rw [ha _ _ (by simp; omega), set_cut (by rw [List.length_map]; exact hc), List.map_set]
theorem other_ok (s : Int) : ∃ c : Cell, c.Ok ∧ f__law_other_cell [.int s] = .ok c.enc := by
  obtain ⟨sd, h1, _⟩ := idx_nesw_str (s / 5 % 4) (by omega) (by omega)
  obtain ⟨c, hc, he⟩ := cell_of_ok s sd
  refine ⟨c, hc, ?_⟩
  rw [f__law_other_cell, runM_q, b__law_other_cell, startE_q]
  simp [d_fdiv, d_mod, h1, he]
def tail16 : SM := (sSeq (sSet 8 (eOp D.idx (eLst [(eK (.str "abc")), (eK (.str "acb")), (eK (.str "bac")), (eK (.str "bca")), (eK (.str "cab")), (eK (.str "cba"))]) (eOp D.mod (eCall f__law_cell [(eV 0), (eK (.int 12))]) (eK (.int 6))))) (sSeq (sSetF 9 (eLst [])) (sSeq (sFor [10] (gOne 10) (iV (eV 5)) (sApp 9 (eIf (tOf (eOp D.eq (eOp D.idx (eV 10) (eK (.int 0))) (eK (.str "well")))) (eOp D.add (eSl (eV 10) none (some (eK (.int 2)))) (eTup [(eOp D.idx (eV 8) (eMet D.isStr mIndexS (eK (.str "abc")) [(eOp D.idx (eV 10) (eK (.int 2)))])), (eOp D.idx (eV 10) (eK (.int 3)))])) (eV 10)))) (sRet (eOp D.eq (eCall f_with_kinds [(eV 1), (eV 8)]) (eTup [(eV 3), (eV 4), (eBf bTuple [(eB 9)])]))))))
theorem tail16_true (ns : List Int) {f : Fl} (ok : f.Ok) (a2 a6 a7 a11 a12 : Option Sl) : tail16 [some (.val (.scr ns)), some (.val f.enc), a2, some (.val (.int f.wide)), some (.val (.int f.high)), some (.val (.tup (f.cells.map Cell.enc))), a6, a7, none, none, none, a11, a12] = .rt (.bl true) := by
  have hs := Fl.size_le ok
  have hz : f.cells.length = f.size := rfl
  have c12 : f__law_cell [.scr ns, .int 12] = .ok (.int (cellI ns 12)) := cell_eq ns 12
  have m12 : D.mod (.int (cellI ns 12)) (.int 6) = some (.int (cellI ns 12 % 6)) := d_mod _ _ (by decide)
  obtain ⟨K, B, κ, μ, hK, KA⟩ := kinds_all (cellI ns 12 % 6) (by omega) (by omega)
  have kk := KA.k
  unfold tail16
  simp [c12, m12, hK]
  generalize hX : forD _ _ _ _ _ = X
  obtain ⟨ρ', rfl, hρ⟩ := inv_of hX (fun i ρ => ρ = [some (.val (.scr ns)), some (.val f.enc), a2, some (.val (.int f.wide)), some (.val (.int f.high)), some (.val (.tup (f.cells.map Cell.enc))), a6, a7, some (.val (.str K)), some (.own (.lst (((f.cells.take i).map (Cell.rel κ)).map Cell.enc))), none, a11, a12])
    (by simp) fun i d ρ hd hp => by
      subst hp
      have hi : i < f.size := by have := (List.getElem?_eq_some_iff.mp hd).1; rwa [List.length_map] at this
      have hd' : d = (f.at i).enc := by
        rw [List.getElem?_map, Fl.get hi] at hd
        exact (Option.some.inj hd).symm
      subst hd'
      have hnext : f.cells.take (i + 1) = f.cells.take i ++ [f.at i] := by
        rw [List.take_succ, Fl.get hi]; rfl
      have hL : ((f.cells.take i).map (Cell.rel κ)).length = i := by rw [List.length_map, List.length_take]; omega
      have hok := Fl.at_ok ok i
      refine ⟨_, ?_, rfl⟩
      rw [turn_one, hnext, List.map_append, List.map_append]
      generalize (f.cells.take i).map (Cell.rel κ) = L at hL
      generalize f.at i = c at hok
      have hlim : i < lim := lt_lim (by omega)
      have h2 : ∀ (a b : D) (ds : List D), D.slice (.tup (a :: b :: ds)) none (some 2) = some (.tup [a, b]) := fun a b ds => by
        show some (D.tup _) = _
        rw [show (some 2 : Option Int) = some ((2 : Nat) : Int) from rfl, cut_take (by simp)]
        rfl
      have hg : ∀ xs ys : List D, xs.length + ys.length ≤ 4 → D.add (.tup xs) (.tup ys) = some (.tup (xs ++ ys)) := fun xs ys h => by
        show (if _ then _ else _) = _
        rw [if_pos (le_lim (by omega))]
      have ha : ∀ a b c d : D, D.add (.tup [a, b]) (.tup [c, d]) = some (.tup [a, b, c, d]) := fun a b c d => hg _ _ (by simp)
      cases c with
      | well s k w =>
        have hk := hok.1
        simp [Cell.enc, Cell.rel, h2, ha, index_abc17 hk, kk.ix k hk, hL, hlim]
      | wall => simp [Cell.enc, Cell.rel, hL, hlim]
      | fin => simp [Cell.enc, Cell.rel, hL, hlim]
      | belt s => simp [Cell.enc, Cell.rel, hL, hlim]
      | parter s t => simp [Cell.enc, Cell.rel, hL, hlim]
  subst hρ
  have e : (D.tup [.int f.wide, .int f.high, .tup ((f.cells.map (Cell.rel κ)).map Cell.enc)]) = (f.rek κ).enc := rfl
  have eqf : D.eq (f.rek κ).enc (f.rek κ).enc = some (.bl true) := d_eq_self (fl_sh (rek_ok ok kk.lt))
  rw [List.length_map, List.take_length]
  rw [← e] at eqf
  have wk := with_kinds_eq ok kk
  rw [← e] at wk
  generalize (f.cells.map (Cell.rel κ)).map Cell.enc = u at *
  simp [wk, eqf, bTuple]
def tail16b : SM := (sSeq (sSet 6 (eOp D.mod (eCall f__law_cell [(eV 0), (eK (.int 10))]) (eBf bLen [(eV 5)]))) (sSeq (sSet 7 (eCall f__law_other_cell [(eCall f__law_seed [(eCall f__law_cell [(eV 0), (eK (.int 11))]), (eK (.int 1))])])) (sSeq (sIf (tOf (eOp D.ne (eCall f_put_cell [(eV 1), (eV 6), (eV 7)]) (eTup [(eV 3), (eV 4), (eOp D.add (eOp D.add (eSl (eV 5) none (some (eV 6))) (eTup [(eV 7)])) (eSl (eV 5) (some (eOp D.add (eV 6) (eK (.int 1)))) none))]))) (sRet (eK (.bl false))) (fun ρ => Out.nx ρ)) tail16)))
def ifTurn : SM := (sIf (tOf (eOp D.eq (eV 3) (eK (.int 6)))) (sIf (tOf (eOp D.ne (eCall f__law_caught [(eK (.int 1)), (eLst [(eV 1)])]) (eK (.str "count")))) (sRet (eK (.bl false))) (fun ρ => Out.nx ρ)) (sIf (tOf (eOp D.ne (eCall f_turned [(eV 1)]) (eCall f__law_turned [(eV 1)]))) (sRet (eK (.bl false))) (fun ρ => Out.nx ρ)))
def ifBes : SM := (sIf (tOrM (tOf (eOp D.ne (eV 4) (eOp D.idx (eV 2) (eK (.int 1))))) (tOf (eOp D.gt (eOp D.add (eV 3) (eOp D.idx (eV 2) (eK (.int 0)))) (eK (.int 6))))) (sIf (tOf (eOp D.ne (eCall f__law_caught [(eK (.int 2)), (eLst [(eV 1), (eV 2)])]) (eK (.str "count")))) (sRet (eK (.bl false))) (fun ρ => Out.nx ρ)) (sSeq (sSet 11 (eTup [])) (sSeq (sFor [12] (gOne 12) (iBf rg1 [(eV 4)]) (sSeq (sSet 11 (eOp D.add (eV 11) (eSl (eV 5) (some (eOp D.mul (eV 12) (eV 3))) (some (eOp D.mul (eOp D.add (eV 12) (eK (.int 1))) (eV 3)))))) (sSet 11 (eOp D.add (eV 11) (eSl (eOp D.idx (eV 2) (eK (.int 2))) (some (eOp D.mul (eV 12) (eOp D.idx (eV 2) (eK (.int 0))))) (some (eOp D.mul (eOp D.add (eV 12) (eK (.int 1))) (eOp D.idx (eV 2) (eK (.int 0)))))))))) (sIf (tOf (eOp D.ne (eCall f_beside_one [(eV 1), (eV 2)]) (eTup [(eOp D.add (eV 3) (eOp D.idx (eV 2) (eK (.int 0)))), (eV 4), (eV 11)]))) (sRet (eK (.bl false))) (fun ρ => Out.nx ρ)))))
theorem b_law_split : b_law = (sSeq (sSet 1 (eCall f__law_floor [(eV 0), (eK (.int 0))])) (sSeq (sSet 2 (eCall f__law_floor [(eV 0), (eK (.int 5))])) (sSeq (sAsg (gTupM [3, 4, 5]) (eV 1)) (sSeq (sIf (tOf (eOp D.ne (eCall f_mirrored [(eV 1)]) (eCall f__law_mirrored [(eV 1)]))) (sRet (eK (.bl false))) (fun ρ => Out.nx ρ)) (sSeq ifTurn (sSeq ifBes tail16b)))))) := rfl
theorem ifTurn_eq (ns : List Int) {f g : Fl} (ok : f.Ok) : ifTurn [some (.val (.scr ns)), some (.val f.enc), some (.val g.enc), some (.val (.int f.wide)), some (.val (.int f.high)), some (.val (.tup (f.cells.map Cell.enc))), none, none, none, none, none, none, none] = .nx [some (.val (.scr ns)), some (.val f.enc), some (.val g.enc), some (.val (.int f.wide)), some (.val (.int f.high)), some (.val (.tup (f.cells.map Cell.enc))), none, none, none, none, none, none, none] := by
  have w6 := ok.w6
  have nec : D.ne (.str "count") (.str "count") = some (.bl false) := d_ne_self (k := 1) (by simp [D.sh])
  have nef : ∀ {g : Fl}, g.Ok → D.ne g.enc g.enc = some (.bl false) := fun o => d_ne_self (fl_sh o)
  unfold ifTurn
  by_cases h6 : f.wide = 6
  · have e : D.eq (.int f.wide) (.int 6) = some (.bl true) := by rw [h6]; exact d_eq_self (k := 1) (by simp [D.sh])
    simp [e, caught1 ok h6, nec]
  · have e : D.eq (.int f.wide) (.int 6) = some (.bl false) := by
      have : D.eq (.int f.wide) (.int 6) = some (.bl (decide ((f.wide : Int) = 6))) := by simp
      rw [this]; simp; omega
    have h5 : f.wide ≤ 5 := by omega
    simp [e, turned_eq ok h5, law_turned_eq ok, nef (trn_ok ok h5)]
theorem ifBes_eq (ns : List Int) {f g : Fl} (ok : f.Ok) (go : g.Ok) : ∃ z : Option Sl, ifBes [some (.val (.scr ns)), some (.val f.enc), some (.val g.enc), some (.val (.int f.wide)), some (.val (.int f.high)), some (.val (.tup (f.cells.map Cell.enc))), none, none, none, none, none, none, none] = .nx [some (.val (.scr ns)), some (.val f.enc), some (.val g.enc), some (.val (.int f.wide)), some (.val (.int f.high)), some (.val (.tup (f.cells.map Cell.enc))), none, none, none, none, none, z, none] := by
  have nec : D.ne (.str "count") (.str "count") = some (.bl false) := d_ne_self (k := 1) (by simp [D.sh])
  have h5 := ok.h5
  unfold ifBes
  by_cases q : f.high ≠ g.high ∨ 6 < f.wide + g.wide
  · refine ⟨none, ?_⟩
    by_cases q1 : f.high = g.high
    · have q2 : (6 : Int) < (f.wide : Int) + g.wide := by omega
      simp [q1, q2, caught2 ok go q, nec]
    · have q2 : ¬ ((f.high : Int) = g.high) := by omega
      simp [q1, q2, caught2 ok go q, nec]
  · have hh : f.high = g.high := by omega
    have hw : f.wide + g.wide ≤ 6 := by omega
    have q2 : ¬ (6 : Int) < (f.wide : Int) + g.wide := by omega
    refine ⟨some (.val (.tup ((bes f g f.high).map Cell.enc))), ?_⟩
    have nb : D.ne (.tup [.int ((f.wide : Int) + g.wide), .int f.high, .tup ((bes f g f.high).map Cell.enc)]) (.tup [.int ((f.wide : Int) + g.wide), .int f.high, .tup ((bes f g f.high).map Cell.enc)]) = some (.bl false) := d_ne_self (k := 3) (by
      have hb : ∀ i, i ≤ f.high → ∀ c ∈ bes f g i, c.Ok := fun i => by
        induction i with
        | zero => intro _ c hc; cases hc
        | succ i ih =>
          intro hi c hc
          rcases List.mem_append.mp hc with hc | hc
          · rcases List.mem_append.mp hc with hc | hc
            · exact ih (by omega) c hc
            · exact ok.ok c (List.mem_of_mem_drop (List.mem_of_mem_take hc))
          · exact go.ok c (List.mem_of_mem_drop (List.mem_of_mem_take hc))
      have h : ((bes f g f.high).map Cell.enc).all (D.sh 1) = true := by
        rw [List.all_map, List.all_eq_true]
        exact fun c hc => Cell.sh (hb _ (Nat.le_refl _) c hc)
      show (D.sh 2 (.int ((f.wide : Int) + g.wide)) && (D.sh 2 (.int f.high) && (D.sh 2 (.tup ((bes f g f.high).map Cell.enc)) && true))) = true
      rw [show D.sh 2 (.tup ((bes f g f.high).map Cell.enc)) = true from h]
      rfl)
    simp [← hh, q2, rg1_nat (show f.high ≤ 1000000 by omega)]
    generalize hX : forD _ _ _ _ _ = X
    obtain ⟨ρ', rfl, hρ⟩ := inv_of hX (fun i ρ => ρ = [some (.val (.scr ns)), some (.val f.enc), some (.val g.enc), some (.val (.int f.wide)), some (.val (.int f.high)), some (.val (.tup (f.cells.map Cell.enc))), none, none, none, none, none, some (.val (.tup ((bes f g i).map Cell.enc))), none])
      rfl fun i d ρ hd hp => by
        obtain ⟨hi, rfl⟩ := nats_range_get hd
        subst hp
        have sm := bes_small ok go hh hw hi
        have s1 := (rowF_len ok hi).2
        have s2 := (rowF_len go (show i < g.high by omega)).2
        have a1 := add_tups (bes f g i) (rowF f i) (by omega)
        have a2 := add_tups (bes f g i ++ rowF f i) (rowF g i) (by rw [List.length_append]; omega)
        have e1 : ((i : Int) + 1) * f.wide = (i : Int) * f.wide + f.wide := by rw [Int.add_mul, Int.one_mul]
        have e2 : ((i : Int) + 1) * g.wide = (i : Int) * g.wide + g.wide := by rw [Int.add_mul, Int.one_mul]
        refine ⟨_, ?_, rfl⟩
        rw [turn_one]
        rw [show bes f g (i + 1) = bes f g i ++ rowF f i ++ rowF g i from rfl]
        simp [mul_w ok, mul_w go, e1, e2, s1, s2, a1, -List.map_append, -List.append_assoc, a2]
    subst hρ
    rw [nats_len, List.length_range]
    simp [beside_one_eq ok go hh hw, nb]
theorem law_true (ns : List Int) : f_law [.scr ns] = .ok (.bl true) := by
  obtain ⟨f, ok, hf⟩ := floor_ok ns 0 (by omega)
  obtain ⟨g, go, hg⟩ := floor_ok ns 5 (by omega)
  have hf0 : f__law_floor [.scr ns, .int 0] = .ok f.enc := hf
  have hg0 : f__law_floor [.scr ns, .int 5] = .ok g.enc := hg
  have hs := Fl.size_le ok
  have hp := Fl.size_pos ok
  have hz : f.cells.length = f.size := rfl
  have w6 := ok.w6
  have h5 := ok.h5
  have mo := mir_ok ok
  have nef : ∀ {g : Fl}, g.Ok → D.ne g.enc g.enc = some (.bl false) := fun o => d_ne_self (fl_sh o)
  obtain ⟨one, hone, hlt⟩ : ∃ c : Nat, cellI ns 10 % (f.size : Nat) = (c : Int) ∧ c < f.size := ⟨(cellI ns 10 % (f.size : Nat)).toNat, by
    have := Int.emod_nonneg (cellI ns 10) (show ((f.size : Nat) : Int) ≠ 0 by omega); omega, by
    have := Int.emod_lt_of_pos (cellI ns 10) (show (0 : Int) < (f.size : Nat) by omega); omega⟩
  have c10 : f__law_cell [.scr ns, .int 10] = .ok (.int (cellI ns 10)) := cell_eq ns 10
  have c11 : f__law_cell [.scr ns, .int 11] = .ok (.int (cellI ns 11)) := cell_eq ns 11
  have m10 : D.mod (.int (cellI ns 10)) (.int (f.size : Nat)) = some (.int (one : Nat)) := by rw [d_mod _ _ (by omega), hone]
  have sd : f__law_seed [.int (cellI ns 11), .int 1] = .ok (.int (seedI (cellI ns 11) 1)) := seed_eq (cellI ns 11) (k := 1) (by omega)
  obtain ⟨x, hx, hxe⟩ := other_ok (seedI (cellI ns 11) 1)
  obtain ⟨u, v, s1, s2, a1, a2⟩ := put_parts ok hlt x
  have pc := put_cell_eq ok hlt hx
  have npc : D.ne (f.put one x).enc (.tup [.int f.wide, .int f.high, .tup ((f.cells.set one x).map Cell.enc)]) = some (.bl false) := nef (put_ok ok hx)
  generalize hP : (f.put one x).enc = pe at pc npc
  have tl := fun a2 a6 a7 a11 a12 => tail16_true ns ok a2 a6 a7 a11 a12
  rw [f_law, runM_q, b_law_split, startE_q]
  have fin : ∀ z11 z12 : Option Sl, tail16b [some (.val (.scr ns)), some (.val f.enc), some (.val g.enc), some (.val (.int f.wide)), some (.val (.int f.high)), some (.val (.tup (f.cells.map Cell.enc))), none, none, none, none, none, z11, z12] = .rt (.bl true) := fun z11 z12 => by
    unfold tail16b
    generalize (f.cells.set one x).map Cell.enc = w at *
    simp [c10, m10, hz, c11, sd, hxe, pc, s1, s2, a1, a2, npc, tl]
  obtain ⟨z, hb⟩ := ifBes_eq ns ok go
  simp [hf0, hg0, x_tup_fl, setAll, mirrored_eq ok, law_mirrored_eq ok, nef mo, ifTurn_eq ns ok, hb, fin]
end L2.Pv.Lw

theorem PySem.Challenge.cw_beltturns_k16_other_floors_holds : PySem.Challenge.rw_beltturns_k16_other_floors.Holds :=
  L2.Pv.Lw.law_holds fun ns h => L2.Pv.Lw.law_true ns
