import PyProof.Rows.All
import Wide.All
import OpenK.AllK
import Wide.FinOn
import KE.KStateDown
import HandS.ForMost
import HandS.ForExc
import HandS.Defaults
import HandS.Head3
import HandS.HeadEnd
import HandS.HeadHook2
import HandS.Star
import KE.DataEq
import HandS.TupAny
import HandS.TupMul
import HandS.IsInst
import HandS.Gcd
import HandS.Style
import HandS.Dict
import HandS.DictTup
import KE.KDictDisplayH
import HandS.Iter
import HandS.Zip0
import PyProof.EnumMake
import PyProof.Draws
import KE.SortData
import KE.DataFind
import HandS.Strs
import HandS.SetFor
import PyProof.TupleOfSeq
import PyProof.ReprRoads
import HandS.HeadHook4
import HandS.Ends
import KE.Datum
import KE.DatumOrd
import PySem.Challenge.RW_wrongplaces_k73_whole_medians
set_option Elab.async false
set_option linter.all false
set_option maxRecDepth 100000
set_option maxHeartbeats 4000000
/-! Ev: a calculus of total functions over plain data, each shown to be what a piece of syntax does (over the hand layer's readings). -/
namespace Ev
open PySem PySem.Spec PyProof.Rows L2

abbrev St := L2.St
/-! ### data -/
/-- built-in classes by name -/
inductive Tk where
  | non | bl | int | str | tup | lst | dic
  deriving DecidableEq
def Tk.name : Tk → String
  | .non => "NoneType"
  | .bl => "bool"
  | .int => "int"
  | .str => "str"
  | .tup => "tuple"
  | .lst => "list"
  | .dic => "dict"
inductive D where
  | non | bl (b : Bool) | int (i : Int) | str (x : Str) | tup (xs : List D) | ktp (xs : List D) | lst (xs : List D) | scr (xs : List D) | dic (t : Bool) (ks vs : List D) | ref (n : Nat) | fn (x : Str) | ty (t : Tk) | loc (i : Nat)
inductive O where
  | lst (xs : List D) | dic (t : Bool) (ks vs : List D) | ins (C : Str) (fs : List (Str × D))
inductive LV where
  | no | val (d : D) | own (o : O)
abbrev En := List LV
abbrev Mu := List O
inductive Ex where
  | mk (C : Str) (p : Option (Str × D))
inductive Rs (α : Type) where
  | ok (a : α) (e : En) (μ : Mu) | ex (x : Ex) (e : En) (μ : Mu) | bad
inductive Rst where
  | nx (e : En) (μ : Mu) | rt (d : D) (e : En) (μ : Mu) | bk (e : En) (μ : Mu) | ct (e : En) (μ : Mu) | ex (x : Ex) (e : En) (μ : Mu) | bad
inductive Rc where
  | ok (d : D) (μ : Mu) | ex (x : Ex) (μ : Mu) | bad
abbrev Ma (α : Type) := En → Mu → Rs α
abbrev ME := Ma D
abbrev MS := En → Mu → Rst
abbrev MF := List D → Mu → Rc
def Rs.bind {α β : Type} (r : Rs α) (f : α → En → Mu → Rs β) : Rs β := match r with
  | .ok a e μ => f a e μ
  | .ex x e μ => .ex x e μ
  | .bad => .bad

/-- the program and the world that are talked of (for hashes) -/
class PWo where
  P : Program
  w : World
variable [PWo]
/-! ### worlds -/
structure Wd where
  ph : List Addr
  F : Addr → Prop
  G : Addr → Prop
def keyA : D → Option Key
  | .int i => some (.inl i)
  | .str x => some (.inr x)
  | _ => none
def keysA : List D → Option (List Key)
  | [] => some []
  | d :: r => match keyA d, keysA r with
    | some k, some ks => some (k :: ks)
    | _, _ => none
def keyT : D → Option (List Key)
  | .tup xs => keysA xs
  | _ => none
def keysT : List D → Option (List (List Key))
  | [] => some []
  | d :: r => match keyT d, keysT r with
    | some k, some ks => some (k :: ks)
    | _, _ => none
/-- a tuple whose object is known to have no dict -/
def TP (H : Hp) (a : Addr) (vs : List V) : Prop := ∃ ob, H a = some (.frz ob (.tup vs)) ∧ ob.dict = none
/-- an object known in full -/
def dTe (a : Addr) (o : Obj) : HO := .ext fun h => h.get? a = some o
/-- o is a dict with tuple keys -/
structure ObT (a : Addr) (o : Obj) (xs : List (List Key × Addr × Value)) : Prop where
  sys : (a == sysModules) = false
  len : xs.length ≤ sizeLine
  ex : o.ExactDict
  en : ∃ es ep, o.data = .dict es ep ∧ es.toList = xs.map (entryOfKey (tupleKind (mixKind PWo.P PWo.w)))
  nd : (xs.map (·.1)).Nodup
def DicO (t : Bool) (H : Hp) (a : Addr) (ks : List D) (vs : List V) : Prop := match t with
  | true => ∃ o xs, H a = some (dTe a o) ∧ ObT a o xs ∧ keysT ks = some (xs.map (·.1)) ∧ (∀ x ∈ xs, TP H x.2.1 (x.1.map kV)) ∧ Vals vs (xs.map (·.2.2))
  | false => ∃ kvs : List (Key × V), Rd H a (.dK kvs) ∧ kvs.map (·.2) = vs ∧ keysA ks = some (kvs.map (·.1))
mutual
def RV (K : PySem.W.Frag) (W : Wd) (H : Hp) : D → V → Prop
  | .non, v => v = .non
  | .bl b, v => v = .bl b
  | .int i, v => v = .int i
  | .str x, v => v = .str x
  | .tup xs, v => ∃ a vs, v = .ref a ∧ TP H a vs ∧ RVs K W H xs vs
  | .ktp xs, v => ∃ a vs, v = .ref a ∧ (H a = some (.tup vs) ∨ ∀ H', SqT K H' a vs) ∧ RVs K W H xs vs
  | .lst xs, v => ∃ a vs, v = .ref a ∧ W.F a ∧ H a = some (.lst vs) ∧ RVs K W H xs vs
  | .scr xs, v => ∃ a vs, v = .ref a ∧ ((W.F a ∧ Rd H a (.lst vs)) ∨ ∀ H', SqL K H' a vs) ∧ RVs K W H xs vs
  | .dic t ks ds, v => ∃ a vs, v = .ref a ∧ W.F a ∧ DicO t H a ks vs ∧ RVs K W H ds vs
  | .ref n, v => ∃ a, v = .ref a ∧ W.ph[n]? = some a
  | .fn x, v => v = .ref (He.ga K x)
  | .ty t, v => v = .ty t.name
  | .loc _, _ => False
def RVs (K : PySem.W.Frag) (W : Wd) (H : Hp) : List D → List V → Prop
  | [], vs => vs = []
  | d :: ds, vs => ∃ v r, vs = v :: r ∧ RV K W H d v ∧ RVs K W H ds r
end
def RO (K : PySem.W.Frag) (W : Wd) (H : Hp) : O → Addr → Prop
  | .lst xs, a => ∃ vs, H a = some (.lst vs) ∧ RVs K W H xs vs
  | .dic t ks ds, a => ∃ vs, Mut (H a) ∧ DicO t H a ks vs ∧ RVs K W H ds vs
  | .ins C fs, a => ∃ dx fv, H a = some (.ins (He.ga K C) dx fv) ∧ fs.map (·.1) = fv.map (·.1) ∧ RVs K W H (fs.map (·.2)) (fv.map (·.2))
structure RelS (K : PySem.W.Frag) (W : Wd) (H : Hp) (μ : Mu) : Prop where
  len : W.ph.length = μ.length
  obj : ∀ (n : Nat) (o : O) (a : Addr), μ[n]? = some o → W.ph[n]? = some a → RO K W H o a
  nF : ∀ a, a ∈ W.ph → ¬ W.F a ∧ ¬ W.G a
  nd : W.ph.Nodup
  fg : ∀ a, W.F a → ¬ W.G a
  tr : ∀ a, W.F a ∨ W.G a → H a ≠ none
/-- the slot holds an object of its own -/
def isOwn (e : En) (i : Nat) : Prop := ∃ o, e[i]? = some (.own o)
structure Rel (K : PySem.W.Frag) (W : Wd) (H : Hp) (e : En) (σ : St) (μ : Mu) : Prop where
  st : RelS K W H μ
  len : e.length = σ.length
  val : ∀ (i : Nat) (d : D), e[i]? = some (.val d) → ∃ v, σ[i]? = some (some v) ∧ RV K W H d v
  own : ∀ (i : Nat) (o : O), e[i]? = some (.own o) → ∃ a, σ[i]? = some (some (.ref a)) ∧ RO K W H o a ∧ ¬ W.F a ∧ ¬ W.G a ∧ a ∉ W.ph
  apart : ∀ (i j : Nat) (a : Addr), isOwn e i → isOwn e j → σ[i]? = some (some (.ref a)) → σ[j]? = some (some (.ref a)) → i = j
def dataO : HO → Prop
  | .lst _ => True
  | .dK _ => True
  | .dT _ => True
  | _ => False
structure Ext (W : Wd) (H : Hp) (W' : Wd) (H' : Hp) : Prop where
  ph : ∃ t, W'.ph = W.ph ++ t
  F : ∀ a, W.F a → W'.F a
  G : ∀ a, W'.G a ↔ W.G a
  kF : ∀ a u, W.F a → dataO u → Rd H a u → Rd H' a u
  kL : ∀ a vs, W.F a → H a = some (.lst vs) → H' a = some (.lst vs)
  kG : ∀ a, W.G a → H' a = H a
  tup : ∀ a vs, H a = some (.tup vs) → H' a = some (.tup vs)
  frz : ∀ a o u, H a = some (.frz o u) → H' a = some (.frz o u)
  kE : ∀ a φ, W.F a → H a = some (.ext φ) → H' a = some (.ext φ)
section
variable {K : PySem.W.Frag} {W W' W1 W2 : Wd} {H H' H1 H2 : Hp} {e : En} {σ : St} {μ : Mu}
theorem Ext.refl : Ext W H W H := ⟨⟨[], by simp⟩, fun _ h => h, fun _ => Iff.rfl, fun _ _ _ _ h => h, fun _ _ _ h => h, fun _ _ => rfl, fun _ _ h => h, fun _ _ _ h => h, fun _ _ _ h => h⟩
theorem Ext.trans (a : Ext W H W1 H1) (b : Ext W1 H1 W2 H2) : Ext W H W2 H2 := by
  obtain ⟨t, ht⟩ := a.ph
  obtain ⟨u, hu⟩ := b.ph
  exact ⟨⟨t ++ u, by rw [hu, ht, List.append_assoc]⟩, fun x h => b.F x (a.F x h), fun x => (b.G x).trans (a.G x), fun x u hx hd h => b.kF x u (a.F x hx) hd (a.kF x u hx hd h),
    fun x vs hx h => b.kL x vs (a.F x hx) (a.kL x vs hx h), fun x h => (b.kG x ((a.G x).mpr h)).trans (a.kG x h), fun x vs h => b.tup x vs (a.tup x vs h), fun x o u h => b.frz x o u (a.frz x o u h), fun x φ hx h => b.kE x φ (a.F x hx) (a.kE x φ hx h)⟩
theorem Rd.same {a : Addr} {u : HO} (s : Same H H') (h : Rd H a u) : Rd H' a u := by
  rcases h with h | ⟨o, h⟩
  · exact .inl (s _ _ h)
  · exact .inr ⟨o, s _ _ h⟩
theorem Ext.same (r : RelS K W H μ) (s : Same H H') : Ext W H W H' :=
  ⟨⟨[], by simp⟩, fun _ h => h, fun _ => Iff.rfl, fun _ _ _ _ h => Rd.same s h, fun a vs _ h => s _ _ h, fun a h => by
    cases q : H a with
    | none => exact absurd q (r.tr a (.inr h))
    | some o => exact s _ _ q, fun _ _ h => s _ _ h, fun _ _ _ h => s _ _ h, fun _ _ _ h => s _ _ h⟩
/-- a tuple that stays: tracked, or the module's own -/
def TupE (K : PySem.W.Frag) (H : Hp) (a : Addr) (vs : List V) : Prop := TP H a vs ∨ (H a = some (.tup vs) ∨ ∀ H', SqT K H' a vs)
theorem TP.ext {a : Addr} {vs : List V} (x : Ext W H W' H') (h : TP H a vs) : TP H' a vs := let ⟨ob, h1, h2⟩ := h; ⟨ob, x.frz a _ _ h1, h2⟩
theorem TP.same {a : Addr} {vs : List V} (s : Same H H') (h : TP H a vs) : TP H' a vs := let ⟨ob, h1, h2⟩ := h; ⟨ob, s _ _ h1, h2⟩
theorem TP.sq {a : Addr} {vs : List V} (h : TP H a vs) : SqT K H a vs := let ⟨ob, h1, _⟩ := h; .inl (.inr ⟨ob, h1⟩)
theorem TupE.ext {a : Addr} {vs : List V} (x : Ext W H W' H') (h : TupE K H a vs) : TupE K H' a vs := h.elim (fun z => .inl (z.ext x)) fun z => z.elim (fun z => .inr (.inl (x.tup a vs z))) fun z => .inr (.inr z)
theorem TupE.sq {a : Addr} {vs : List V} (h : TupE K H a vs) : SqT K H a vs := h.elim (fun z => z.sq) fun z => z.elim (fun z => .inl (.inl z)) fun z => z H
theorem DicO.ext {t : Bool} {a : Addr} {ks : List D} {vs : List V} (x : Ext W H W' H') (hf : W.F a) (h : DicO t H a ks vs) : DicO t H' a ks vs := by
  cases t with
  | true =>
    obtain ⟨o, xs, h1, h2, h3, h4, h5⟩ := h
    exact ⟨o, xs, x.kE a _ hf h1, h2, h3, fun y hy => (h4 y hy).ext x, h5⟩
  | false =>
    obtain ⟨kvs, h1, h2⟩ := h
    exact ⟨kvs, x.kF a _ hf trivial h1, h2⟩
theorem scrL {a : Addr} {vs : List V} (h : (W.F a ∧ Rd H a (.lst vs)) ∨ ∀ H', SqL K H' a vs) : SqL K H a vs := h.elim (fun z => .inl z.2) fun z => z H
theorem scrX {a : Addr} {vs : List V} (x : Ext W H W' H') (h : (W.F a ∧ Rd H a (.lst vs)) ∨ ∀ H', SqL K H' a vs) : SqL K H' a vs := h.elim (fun z => .inl (x.kF a _ z.1 trivial z.2)) fun z => z H'
mutual
theorem RV.ext (x : Ext W H W' H') : ∀ (d : D) (v : V), RV K W H d v → RV K W' H' d v
  | .non, v, h => h
  | .bl _, v, h => h
  | .int _, v, h => h
  | .str _, v, h => h
  | .tup xs, v, h => by
    obtain ⟨a, vs, e, h1, h2⟩ := h
    exact ⟨a, vs, e, h1.ext x, RVs.ext x xs vs h2⟩
  | .ktp xs, v, h => by
    obtain ⟨a, vs, e, h1, h2⟩ := h
    exact ⟨a, vs, e, h1.elim (fun z => .inl (x.tup a vs z)) .inr, RVs.ext x xs vs h2⟩
  | .lst xs, v, h => by
    obtain ⟨a, vs, e, h1, h2, h3⟩ := h
    exact ⟨a, vs, e, x.F a h1, x.kL a _ h1 h2, RVs.ext x xs vs h3⟩
  | .scr xs, v, h => by
    obtain ⟨a, vs, e, h1, h3⟩ := h
    exact ⟨a, vs, e, h1.elim (fun z => .inl ⟨x.F a z.1, x.kF a _ z.1 trivial z.2⟩) .inr, RVs.ext x xs vs h3⟩
  | .dic t ks ds, v, h => by
    obtain ⟨a, vs, e, h1, h2, h3⟩ := h
    exact ⟨a, vs, e, x.F a h1, DicO.ext x h1 h2, RVs.ext x ds vs h3⟩
  | .ref n, v, h => by
    obtain ⟨a, e, h1⟩ := h
    obtain ⟨t, ht⟩ := x.ph
    refine ⟨a, e, ?_⟩
    rw [ht, List.getElem?_append_left (List.getElem?_eq_some_iff.mp h1).1]
    exact h1
  | .fn _, v, h => h
  | .ty _, v, h => h
  | .loc _, v, h => h
theorem RVs.ext (x : Ext W H W' H') : ∀ (ds : List D) (vs : List V), RVs K W H ds vs → RVs K W' H' ds vs
  | [], vs, h => h
  | d :: ds, vs, h => by
    obtain ⟨v, r, e, h1, h2⟩ := h
    exact ⟨v, r, e, RV.ext x d v h1, RVs.ext x ds r h2⟩
end
theorem DicO.same {t : Bool} {a : Addr} {ks : List D} {vs : List V} (s : Same H H') (h : DicO t H a ks vs) : DicO t H' a ks vs := by
  cases t with
  | true =>
    obtain ⟨o, xs, h1, h2, h3, h4, h5⟩ := h
    exact ⟨o, xs, s _ _ h1, h2, h3, fun y hy => (h4 y hy).same s, h5⟩
  | false =>
    obtain ⟨kvs, h1, h2⟩ := h
    exact ⟨kvs, Rd.same s h1, h2⟩
/-- an object that stands as it stood, in a later world -/
theorem RO.ext {o : O} {a : Addr} (x : Ext W H W' H') (k : H' a = H a) (h : RO K W H o a) : RO K W' H' o a := by
  cases o with
  | lst xs =>
    obtain ⟨vs, h1, h2⟩ := h
    exact ⟨vs, k.trans h1, RVs.ext x _ _ h2⟩
  | dic t ks ds =>
    obtain ⟨vs, hm, h1, h2⟩ := h
    refine ⟨vs, by rw [k]; exact hm, ?_, RVs.ext x _ _ h2⟩
    cases t with
    | true =>
      obtain ⟨o, xs, g1, g2, g3, g4, g5⟩ := h1
      exact ⟨o, xs, k.trans g1, g2, g3, fun y hy => (g4 y hy).ext x, g5⟩
    | false =>
      obtain ⟨kvs, h3, h4⟩ := h1
      refine ⟨kvs, ?_, h4⟩
      rcases h3 with h3 | ⟨ob, h3⟩
      · exact .inl (k.trans h3)
      · exact .inr ⟨ob, k.trans h3⟩
  | ins C fs =>
    obtain ⟨dx, fv, h1, h2, h3⟩ := h
    exact ⟨dx, fv, k.trans h1, h2, RVs.ext x _ _ h3⟩
theorem RO.nn {o : O} {a : Addr} (h : RO K W H o a) : H a ≠ none := by
  cases o with
  | lst xs =>
    obtain ⟨vs, h1, _⟩ := h
    rw [h1]; exact fun z => nomatch z
  | dic t ks ds =>
    obtain ⟨vs, hm, _⟩ := h
    intro z
    rw [z] at hm
    exact hm
  | ins C fs =>
    obtain ⟨dx, fv, h1, _⟩ := h
    rw [h1]; exact fun z => nomatch z
theorem same_at {a : Addr} (s : Same H H') (h : H a ≠ none) : H' a = H a := by
  cases q : H a with
  | none => exact absurd q h
  | some o => exact s _ _ q
theorem RelS.same (r : RelS K W H μ) (s : Same H H') : RelS K W H' μ :=
  ⟨r.len, fun n o a h1 h2 => (r.obj n o a h1 h2).ext (Ext.same r s) (same_at s (r.obj n o a h1 h2).nn), r.nF, r.nd, r.fg, fun a h => by
    rw [same_at s (r.tr a h)]
    exact r.tr a h⟩
theorem Rel.same (r : Rel K W H e σ μ) (s : Same H H') : Rel K W H' e σ μ := by
  have x := Ext.same r.st s
  refine ⟨r.st.same s, r.len, fun i d h => ?_, fun i o h => ?_, r.apart⟩
  · obtain ⟨v, h1, h2⟩ := r.val i d h
    exact ⟨v, h1, RV.ext x _ _ h2⟩
  · obtain ⟨a, h1, h2, h3⟩ := r.own i o h
    exact ⟨a, h1, h2.ext x (same_at s h2.nn), h3⟩
/-- what is handed on for a moment: a value, or the name of a slot with an object of its own -/
def RP (K : PySem.W.Frag) (σ : St) (W : Wd) (H : Hp) (d : D) (v : V) : Prop := match d with
  | .loc i => σ[i]? = some (some v)
  | d => RV K W H d v
theorem RP.ext {d : D} {v : V} (x : Ext W H W' H') (h : RP K σ W H d v) : RP K σ W' H' d v := by
  cases d with
  | loc i => exact h
  | _ => exact RV.ext x _ _ h
def RPs (K : PySem.W.Frag) (σ : St) (W : Wd) (H : Hp) : List D → List V → Prop
  | [], vs => vs = []
  | d :: ds, vs => ∃ v r, vs = v :: r ∧ RP K σ W H d v ∧ RPs K σ W H ds r
theorem RPs.ext (x : Ext W H W' H') : ∀ {ds : List D} {vs : List V}, RPs K σ W H ds vs → RPs K σ W' H' ds vs
  | [], _, h => h
  | _ :: _, _, ⟨v, r, e, h1, h2⟩ => ⟨v, r, e, h1.ext x, RPs.ext x h2⟩
theorem RP.of {d : D} {v : V} (h : RV K W H d v) : RP K σ W H d v := by
  cases d with
  | loc i => exact h.elim
  | _ => exact h
theorem RPs.of : ∀ {ds : List D} {vs : List V}, RVs K W H ds vs → RPs K σ W H ds vs
  | [], _, h => h
  | _ :: _, _, ⟨v, r, e, h1, h2⟩ => ⟨v, r, e, RP.of h1, RPs.of h2⟩
/-- not a slot's name -/
def D.plain : D → Bool
  | .loc _ => false
  | _ => true
theorem RP.val {d : D} {v : V} (h : RP K σ W H d v) (p : d.plain = true) : RV K W H d v := by
  cases d with
  | loc i => cases p
  | _ => exact h
def plains : List D → Bool
  | [] => true
  | d :: r => d.plain && plains r
theorem RPs.vals : ∀ {ds : List D} {vs : List V}, RPs K σ W H ds vs → plains ds = true → RVs K W H ds vs
  | [], _, h, _ => h
  | _ :: _, _, ⟨v, r, e, h1, h2⟩, p => by
    obtain ⟨p1, p2⟩ := Bool.and_eq_true_iff.mp p
    exact ⟨v, r, e, h1.val p1, RPs.vals h2 p2⟩
theorem RVs.length : ∀ {ds : List D} {vs : List V}, RVs K W H ds vs → vs.length = ds.length
  | [], _, h => by rw [show _ = [] from h]; rfl
  | _ :: _, _, ⟨v, r, e, h1, h2⟩ => by rw [e, List.length_cons, List.length_cons, RVs.length h2]
theorem RPs.length : ∀ {ds : List D} {vs : List V}, RPs K σ W H ds vs → vs.length = ds.length
  | [], _, h => by rw [show _ = [] from h]; rfl
  | _ :: _, _, ⟨v, r, e, h1, h2⟩ => by rw [e, List.length_cons, List.length_cons, RPs.length h2]
theorem RVs.get : ∀ {ds : List D} {vs : List V} {i : Nat} {d : D}, RVs K W H ds vs → ds[i]? = some d → ∃ v, vs[i]? = some v ∧ RV K W H d v
  | [], _, i, d, h, z => by simp at z
  | _ :: _, _, 0, d, ⟨v, r, e, h1, h2⟩, z => by
    simp at z
    subst z e
    exact ⟨v, rfl, h1⟩
  | _ :: _, _, i + 1, d, ⟨v, r, e, h1, h2⟩, z => by
    obtain ⟨w, h3, h4⟩ := RVs.get (i := i) h2 (by simpa using z)
    subst e
    exact ⟨w, by simpa using h3, h4⟩
theorem RVs.append : ∀ {ds es : List D} {vs ws : List V}, RVs K W H ds vs → RVs K W H es ws → RVs K W H (ds ++ es) (vs ++ ws)
  | [], _, _, _, h, h' => by
    rw [show _ = [] from h]
    exact h'
  | _ :: _, _, _, _, ⟨v, r, e, h1, h2⟩, h' => by
    subst e
    exact ⟨v, _, rfl, h1, RVs.append h2 h'⟩
theorem RVs.take : ∀ {ds : List D} {vs : List V} (n : Nat), RVs K W H ds vs → RVs K W H (ds.take n) (vs.take n)
  | _, _, 0, _ => by simp [RVs]
  | [], _, n + 1, h => by
    rw [show _ = [] from h]
    simp [RVs]
  | _ :: _, _, n + 1, ⟨v, r, e, h1, h2⟩ => by
    subst e
    exact ⟨v, _, rfl, h1, RVs.take n h2⟩
theorem RVs.drop : ∀ {ds : List D} {vs : List V} (n : Nat), RVs K W H ds vs → RVs K W H (ds.drop n) (vs.drop n)
  | _, _, 0, h => h
  | [], _, n + 1, h => by
    rw [show _ = [] from h]
    simp [RVs]
  | _ :: _, _, n + 1, ⟨v, r, e, h1, h2⟩ => by
    subst e
    exact RVs.drop n h2
theorem RVs.set {d : D} {v : V} (hd : RV K W H d v) : ∀ {ds : List D} {vs : List V} (i : Nat), RVs K W H ds vs → RVs K W H (ds.set i d) (vs.set i v)
  | [], _, i, h => by
    rw [show _ = [] from h]
    simp [RVs]
  | _ :: _, _, 0, ⟨w, r, e, h1, h2⟩ => by
    subst e
    exact ⟨v, _, rfl, hd, h2⟩
  | _ :: _, _, i + 1, ⟨w, r, e, h1, h2⟩ => by
    subst e
    exact ⟨w, _, rfl, h1, RVs.set hd i h2⟩
theorem RVs.rev : ∀ {ds : List D} {vs : List V}, RVs K W H ds vs → RVs K W H ds.reverse vs.reverse
  | [], _, h => by
    rw [show _ = [] from h]
    simp [RVs]
  | _ :: _, _, ⟨v, r, e, h1, h2⟩ => by
    subst e
    rw [List.reverse_cons, List.reverse_cons]
    exact RVs.append (RVs.rev h2) ⟨v, [], rfl, h1, rfl⟩
end

/-! ### what is wanted behind a function's value -/
def XR (K : PySem.W.Frag) (W : Wd) (H : Hp) (x : Ex) (cls : Value) (d : Option Addr) : Prop := match x with
  | .mk C none => cls = .ref (He.ga K C)
  | .mk C (some (f, p)) => cls = .ref (He.ga K C) ∧ ∃ dx v, d = some dx ∧ H dx = some (.xd [(f, v)]) ∧ RV K W H p v
abbrev Rr (α β : Type) := St → En → Wd → Hp → α → β → Prop
def Post (K : PySem.W.Frag) (Wx : WX) {α β : Type} (rel : Rr α β) (W0 : Wd) (H0 : Hp) (σ : St) (r : Rs α) (Q : β → Hp → Prop) : Prop := match r with
  | .ok a e μ => ∀ W H b, Ext W0 H0 W H → Rel K W H e σ μ → rel σ e W H a b → Q b H
  | .ex x e μ => ∀ W H cls d, Ext W0 H0 W H → Rel K W H e σ μ → XR K W H x cls d → Wx cls d σ H
  | .bad => False
def TR (K : PySem.W.Frag) (Wx : WX) {α β : Type} (rel : Rr α β) (m : Ma α) : St → Hp → (β → Hp → Prop) → Prop := fun σ H Q => ∃ W e μ, Rel K W H e σ μ ∧ Post K Wx rel W H σ (m e μ) Q
abbrev relV (K : PySem.W.Frag) : Rr D V := fun σ _ W H d v => RP K σ W H d v
abbrev relVs (K : PySem.W.Frag) : Rr (List D) (List V) := fun σ _ W H ds vs => RPs K σ W H ds vs
abbrev relB : Rr Bool Bool := fun _ _ _ _ a b => a = b
def Fresh (K : PySem.W.Frag) (σ : St) (e : En) (W : Wd) (H : Hp) (o : O) (a : Addr) : Prop :=
  RO K W H o a ∧ ¬ W.F a ∧ ¬ W.G a ∧ a ∉ W.ph ∧ ∀ i, isOwn e i → σ[i]? ≠ some (some (.ref a))
abbrev relO (K : PySem.W.Frag) : Rr O V := fun σ e W H o v => ∃ a, v = .ref a ∧ Fresh K σ e W H o a
/-- an expression is the function m: a value; a test; arguments; a new object -/
def EE (X : Cx) (Wx : WX) (e : Expr) (m : ME) : Prop := PE X e (TR X.K Wx (relV X.K) m)
def ET (X : Cx) (Wx : WX) (e : Expr) (m : Ma Bool) : Prop := PT X e (TR X.K Wx relB m)
def EA (X : Cx) (Wx : WX) (es : List Expr) (m : Ma (List D)) : Prop := PA X es (TR X.K Wx (relVs X.K) m)
def EF (X : Cx) (Wx : WX) (e : Expr) (m : Ma O) : Prop := PE X e (TR X.K Wx (relO X.K) m)
section
variable {K : PySem.W.Frag} {Wx : WX} {α β γ δ : Type} {rel : Rr α β} {rel' : Rr γ δ} {W W0 W1 : Wd} {H H0 H1 : Hp} {σ : St}
theorem Post.mono {r : Rs α} {Q Q' : β → Hp → Prop} (h : Post K Wx rel W H σ r Q) (k : ∀ b H', Q b H' → Q' b H') : Post K Wx rel W H σ r Q' := by
  cases r with
  | ok a e μ => exact fun W1 H1 b x y z => k _ _ (h W1 H1 b x y z)
  | ex x e μ => exact h
  | bad => exact h
theorem Post.later {r : Rs α} {Q : β → Hp → Prop} (x : Ext W H W1 H1) (h : Post K Wx rel W H σ r Q) : Post K Wx rel W1 H1 σ r Q := by
  cases r with
  | ok a e μ => exact fun W2 H2 b y => h W2 H2 b (x.trans y)
  | ex x' e μ => exact fun W2 H2 c d y => h W2 H2 c d (x.trans y)
  | bad => exact h
/-- the first of two -/
theorem Post.bind {r : Rs α} {f : α → En → Mu → Rs γ} {Q : δ → Hp → Prop} (h : Post K Wx rel' W H σ (r.bind f) Q) :
    Post K Wx rel W H σ r fun b H1 => ∃ W1 a e μ, Rel K W1 H1 e σ μ ∧ rel σ e W1 H1 a b ∧ Ext W H W1 H1 ∧ Post K Wx rel' W1 H1 σ (f a e μ) Q := by
  cases r with
  | ok a e μ => exact fun W1 H1 b x y z => ⟨W1, a, e, μ, y, z, x, Post.later x h⟩
  | ex x e μ => exact h
  | bad => exact h
theorem Post.ok {a : α} {e : En} {μ : Mu} {Q : β → Hp → Prop} (h : Post K Wx rel W H σ (.ok a e μ) Q) {b : β} (r : Rel K W H e σ μ) (z : rel σ e W H a b) : Q b H := h W H b Ext.refl r z
/-- behind a step that left all that was tracked -/
theorem Post.same {a : α} {e : En} {μ : Mu} {Q : β → Hp → Prop} (h : Post K Wx rel W H σ (.ok a e μ) Q) (r : Rel K W H e σ μ) (s : Same H H1) {b : β} (z : rel σ e W H1 a b) : Q b H1 :=
  h W H1 b (Ext.same r.st s) (r.same s) z
end
end Ev

set_option maxRecDepth 100000
set_option maxHeartbeats 4000000
/-! Ev2: names, constants, operators, tests, displays. -/
namespace Ev
open PySem PySem.Spec PyProof.Rows L2
variable [PWo]
section
variable {X : Cx} {Wx : WX} {α β γ δ : Type}
theorem PE.weak {e : Expr} {t u : TE} (h : PE X e t) (k : ∀ σ H Q, u σ H Q → t σ H Q) : PE X e u := ⟨fun pins s σ H Q I q => h.run pins s σ H Q I (k σ H Q q)⟩
theorem PT.weak {e : Expr} {t u : TT} (h : PT X e t) (k : ∀ σ H Q, u σ H Q → t σ H Q) : PT X e u := ⟨fun pins s σ H Q I q => h.run pins s σ H Q I (k σ H Q q)⟩
theorem PA.weak {e : List Expr} {t u : TA} (h : PA X e t) (k : ∀ σ H Q, u σ H Q → t σ H Q) : PA X e u := ⟨fun pos pins s σ H Q I q => h.run pos pins s σ H Q I (k σ H Q q)⟩
theorem PW.weak {e : Expr} {t u : TT} (h : PW X e t) (k : ∀ σ H Q, u σ H Q → t σ H Q) : PW X e u := ⟨fun wh pins s σ H Q I q => h.run wh pins s σ H Q I (k σ H Q q)⟩
end

/-! ### steps of the functions -/
def mBind {α β : Type} (m : Ma α) (f : α → Ma β) : Ma β := fun e μ => (m e μ).bind f
def pOk {α : Type} (o : Option α) : Ma α := fun e μ => match o with
  | some a => .ok a e μ
  | none => .bad
/-- one after another: what the first one hands on stands while the second one is done -/
def Seq2 (K : PySem.W.Frag) (Wx : WX) {α β γ δ ε ζ : Type} (relA : Rr α β) (relB : Rr γ δ) (relC : Rr ε ζ) (f : α → γ → Ma ε) (Q : ζ → Hp → Prop) (R : β → δ → Hp → Prop) (σ : St) : Prop :=
  ∀ W H e μ a b c d, Rel K W H e σ μ → relA σ e W H a b → relB σ e W H c d → Post K Wx relC W H σ (f a c e μ) Q → R b d H
section
variable {K : PySem.W.Frag} {Wx : WX} {σ : St} {H : Hp}
theorem TR.one {α β γ δ : Type} {rel : Rr α β} {rel' : Rr γ δ} {m : Ma α} {f : α → Ma γ} {Q : δ → Hp → Prop} {R : β → Hp → Prop} (h : TR K Wx rel' (mBind m f) σ H Q)
    (k : ∀ W H e μ a b, Rel K W H e σ μ → rel σ e W H a b → Post K Wx rel' W H σ (f a e μ) Q → R b H) : TR K Wx rel m σ H R := by
  obtain ⟨W, e, μ, r, p⟩ := h
  exact ⟨W, e, μ, r, (Post.bind p).mono fun b H1 ⟨W1, a, e1, μ1, r1, z, x, p1⟩ => k W1 H1 e1 μ1 a b r1 z p1⟩
theorem TR.two {γ δ ε ζ : Type} {relB : Rr γ δ} {relC : Rr ε ζ} {m : ME} {n : Ma γ} {f : D → γ → Ma ε} {Q : ζ → Hp → Prop} {R : V → δ → Hp → Prop}
    (h : TR K Wx relC (mBind m fun a => mBind n fun c => f a c) σ H Q) (k : Seq2 K Wx (relV K) relB relC f Q R σ) : TR K Wx (relV K) m σ H fun b H1 => TR K Wx relB n σ H1 fun d H2 => R b d H2 := by
  obtain ⟨W, e, μ, r, p⟩ := h
  refine ⟨W, e, μ, r, (Post.bind p).mono fun b H1 ⟨W1, a, e1, μ1, r1, z1, x1, p1⟩ => ?_⟩
  refine ⟨W1, e1, μ1, r1, (Post.bind p1).mono fun d H2 ⟨W2, c, e2, μ2, r2, z2, x2, p2⟩ => ?_⟩
  exact k W2 H2 e2 μ2 a b c d r2 (RP.ext x2 z1) z2 p2
end

/-! ### names, constants -/
def mVar (i : Nat) : ME := fun e μ => match e[i]? with
  | some (.val d) => .ok d e μ
  | some (.own _) => .ok (.loc i) e μ
  | _ => .bad
def mC (d : D) : ME := fun e μ => .ok d e μ
def O.val : O → Option D
  | .lst xs => some (.lst xs)
  | .dic t ks vs => some (.dic t ks vs)
  | .ins _ _ => none
/-- the slot's own object, from now on a value -/
def mFrz (i : Nat) : ME := fun e μ => match e[i]? with
  | some (.own o) => (match o.val with
    | some d => .ok d (e.set i (.val d)) μ
    | none => .bad)
  | _ => .bad
section
variable {X : Cx} {Wx : WX}
theorem ee_c {e : Expr} {v : V} {d : D} (h : PE X e (tC v)) (k : ∀ W H, RV X.K W H d v) : EE X Wx e (mC d) := PE.weak h fun σ H Q q => by
  obtain ⟨W, en, μ, r, p⟩ := q
  exact Post.ok p r (RP.of (k W H))
theorem ee_int {i j pos} : EE X Wx (.Constant (.int i) j pos) (mC (.int i)) := ee_c pe_int fun _ _ => rfl
theorem ee_bl {b j pos} : EE X Wx (.Constant (.bool b) j pos) (mC (.bl b)) := ee_c pe_bl fun _ _ => rfl
theorem ee_non {j pos} : EE X Wx (.Constant .none j pos) (mC .non) := ee_c pe_non fun _ _ => rfl
theorem ee_str {x j pos} : EE X Wx (.Constant (.str x) j pos) (mC (.str x)) := ee_c pe_str fun _ _ => rfl
theorem ee_var {e : Expr} {i : Nat} (h : PE X e (tVar i)) : EE X Wx e (mVar i) := PE.weak h fun σ H Q q => by
  obtain ⟨W, en, μ, r, p⟩ := q
  unfold mVar at p
  cases z : en[i]? with
  | none => rw [z] at p; exact p.elim
  | some l =>
    rw [z] at p
    cases l with
    | no => exact p.elim
    | val d =>
      obtain ⟨v, h1, h2⟩ := r.val i d z
      exact ⟨v, h1, Post.ok p r (RP.of h2)⟩
    | own o =>
      obtain ⟨a, h1, _⟩ := r.own i o z
      exact ⟨_, h1, Post.ok p r h1⟩
theorem get_set {α : Type} {l : List α} {i j : Nat} {a b : α} (h : (l.set i a)[j]? = some b) : (i = j ∧ b = a) ∨ (i ≠ j ∧ l[j]? = some b) := by
  by_cases e : i = j
  · subst e
    by_cases hl : i < l.length
    · rw [List.getElem?_set_self hl] at h
      exact .inl ⟨rfl, (Option.some.inj h).symm⟩
    · rw [List.getElem?_eq_none (by simpa using hl)] at h
      cases h
  · rw [List.getElem?_set_ne e] at h
    exact .inr ⟨e, h⟩
theorem Mut.rd {H : Hp} {a : Addr} {u : HO} (hm : Mut (H a)) (h : Rd H a u) : H a = some u := by
  rcases h with h | ⟨o, h⟩
  · exact h
  · rw [h] at hm; exact hm.elim
/-- an object that nobody else holds becomes a value -/
def Wd.freeze (W : Wd) (a : Addr) : Wd := { W with F := fun b => b = a ∨ W.F b }
theorem Ext.freeze {W : Wd} {H : Hp} {a : Addr} : Ext W H (W.freeze a) H := ⟨⟨[], by simp [Wd.freeze]⟩, fun _ h => .inr h, fun _ => Iff.rfl, fun _ _ _ _ h => h, fun _ _ _ h => h, fun _ _ => rfl, fun _ _ h => h, fun _ _ _ h => h, fun _ _ _ h => h⟩
theorem RO.frozen {K : PySem.W.Frag} {W : Wd} {H : Hp} {o : O} {a : Addr} {d : D} (h : RO K W H o a) (e : o.val = some d) : RV K (W.freeze a) H d (.ref a) := by
  cases o with
  | lst xs =>
    cases e
    obtain ⟨vs, h1, h2⟩ := h
    exact ⟨a, vs, rfl, .inl rfl, h1, RVs.ext Ext.freeze _ _ h2⟩
  | dic t ks ds =>
    cases e
    obtain ⟨vs, hm, h1, h2⟩ := h
    exact ⟨a, vs, rfl, .inl rfl, h1, RVs.ext Ext.freeze _ _ h2⟩
  | ins C fs => cases e
theorem RelS.freeze {K : PySem.W.Frag} {W : Wd} {H : Hp} {μ : Mu} {a : Addr} (r : RelS K W H μ) (hn : H a ≠ none) (hG : ¬ W.G a) (hp : a ∉ W.ph) : RelS K (W.freeze a) H μ := by
  refine ⟨r.len, fun n o b h1 h2 => (r.obj n o b h1 h2).ext Ext.freeze rfl, fun b hb => ⟨fun z => ?_, (r.nF b hb).2⟩, r.nd, fun b hb => ?_, fun b hb => ?_⟩
  · rcases z with z | z
    · exact hp (z ▸ hb)
    · exact (r.nF b hb).1 z
  · rcases hb with z | z
    · rw [z]; exact hG
    · exact r.fg b z
  · rcases hb with (z | z) | z
    · rw [z]; exact hn
    · exact r.tr b (.inl z)
    · exact r.tr b (.inr z)
theorem ee_frz {e : Expr} {i : Nat} (h : PE X e (tVar i)) : EE X Wx e (mFrz i) := PE.weak h fun σ H Q q => by
  obtain ⟨W, en, μ, r, p⟩ := q
  unfold mFrz at p
  cases z : en[i]? with
  | none => rw [z] at p; exact p.elim
  | some l =>
    rw [z] at p
    cases l with
    | no => exact p.elim
    | val d => exact p.elim
    | own o =>
      cases hv : o.val with
      | none =>
        have p' : Post X.K Wx (relV X.K) W H σ (match o.val with | some d => (.ok d (en.set i (.val d)) μ : Rs D) | none => .bad) Q := p
        rw [hv] at p'
        exact p'.elim
      | some d =>
        have p' : Post X.K Wx (relV X.K) W H σ (match o.val with | some d => (.ok d (en.set i (.val d)) μ : Rs D) | none => .bad) Q := p
        rw [hv] at p'
        obtain ⟨a, h1, h2, hF, hG, hp⟩ := r.own i o z
        refine ⟨_, h1, p' (W.freeze a) H _ Ext.freeze ⟨r.st.freeze h2.nn hG hp, by rw [List.length_set]; exact r.len, fun j d' hj => ?_, fun j o' hj => ?_, fun j k b hj hk e1 e2 => ?_⟩ (RP.of (h2.frozen hv))⟩
        · rcases get_set hj with ⟨rfl, e⟩ | ⟨_, hj⟩
          · cases e
            exact ⟨_, h1, h2.frozen hv⟩
          · obtain ⟨v, g1, g2⟩ := r.val j d' hj
            exact ⟨v, g1, RV.ext Ext.freeze _ _ g2⟩
        · rcases get_set hj with ⟨rfl, e⟩ | ⟨ne, hj⟩
          · cases e
          · obtain ⟨b, g1, g2, g3, g4, g5⟩ := r.own j o' hj
            refine ⟨b, g1, g2.ext Ext.freeze rfl, fun zz => ?_, g4, g5⟩
            rcases zz with zz | zz
            · subst zz
              exact ne (r.apart i j b ⟨o, z⟩ ⟨o', hj⟩ h1 g1)
            · exact g3 zz
        · obtain ⟨o1, hj⟩ := hj
          obtain ⟨o2, hk⟩ := hk
          rcases get_set hj with ⟨_, e⟩ | ⟨_, hj⟩
          · cases e
          · rcases get_set hk with ⟨_, e⟩ | ⟨_, hk⟩
            · cases e
            · exact r.apart j k b ⟨o1, hj⟩ ⟨o2, hk⟩ e1 e2
/-! ### a new object as a value; in the store -/
def mVal (m : Ma O) : ME := mBind m fun o => pOk o.val
theorem Fresh.freeze {K : PySem.W.Frag} {W : Wd} {H : Hp} {e : En} {σ : St} {μ : Mu} {o : O} {a : Addr} (r : Rel K W H e σ μ) (f : Fresh K σ e W H o a) : Rel K (W.freeze a) H e σ μ := by
  obtain ⟨f1, f2, f3, f4, f5⟩ := f
  refine ⟨r.st.freeze f1.nn f3 f4, r.len, fun i d h => ?_, fun i o' h => ?_, r.apart⟩
  · obtain ⟨v, g1, g2⟩ := r.val i d h
    exact ⟨v, g1, RV.ext Ext.freeze _ _ g2⟩
  · obtain ⟨b, g1, g2, g3, g4, g5⟩ := r.own i o' h
    refine ⟨b, g1, g2.ext Ext.freeze rfl, fun z => ?_, g4, g5⟩
    rcases z with z | z
    · subst z
      exact f5 i ⟨o', h⟩ g1
    · exact g3 z
theorem ee_val {e : Expr} {m : Ma O} (h : EF X Wx e m) : EE X Wx e (mVal m) := PE.weak h fun σ H Q q => by
  refine TR.one q fun W H en μ o v r z p => ?_
  obtain ⟨a, rfl, f⟩ := z
  cases hv : o.val with
  | none => rw [hv] at p; exact p.elim
  | some d =>
    rw [hv] at p
    exact p (W.freeze a) H _ Ext.freeze (f.freeze r) (RP.of (f.1.frozen hv))
def mAlloc (m : Ma O) : ME := fun e μ => match m e μ with
  | .ok o e μ => .ok (.ref μ.length) e (μ ++ [o])
  | .ex x e μ => .ex x e μ
  | .bad => .bad
def Wd.alloc (W : Wd) (a : Addr) : Wd := { W with ph := W.ph ++ [a] }
theorem Ext.alloc {W : Wd} {H : Hp} {a : Addr} : Ext W H (W.alloc a) H := ⟨⟨[a], rfl⟩, fun _ h => h, fun _ => Iff.rfl, fun _ _ _ _ h => h, fun _ _ _ h => h, fun _ _ => rfl, fun _ _ h => h, fun _ _ _ h => h, fun _ _ _ h => h⟩
theorem RelS.alloc {K : PySem.W.Frag} {W : Wd} {H : Hp} {μ : Mu} {o : O} {a : Addr} (r : RelS K W H μ) (h : RO K W H o a) (hF : ¬ W.F a) (hG : ¬ W.G a) (hp : a ∉ W.ph) : RelS K (W.alloc a) H (μ ++ [o]) := by
  refine ⟨by show (W.ph ++ [a]).length = _; simp [r.len], fun n o' b h1 h2 => ?_, fun b hb => ?_, ?_, r.fg, r.tr⟩
  · have h2 : (W.ph ++ [a])[n]? = some b := h2
    by_cases hn : n < μ.length
    · rw [List.getElem?_append_left hn] at h1
      rw [List.getElem?_append_left (by rw [r.len]; exact hn)] at h2
      exact (r.obj n o' b h1 h2).ext Ext.alloc rfl
    · rw [List.getElem?_append_right (by omega)] at h1
      rw [List.getElem?_append_right (by rw [r.len]; omega)] at h2
      rw [r.len] at h2
      cases hk : n - μ.length with
      | zero =>
        rw [hk] at h1 h2
        simp at h1 h2
        subst h1 h2
        exact h.ext Ext.alloc rfl
      | succ k =>
        rw [hk] at h1
        simp at h1
  · have hb : b ∈ W.ph ++ [a] := hb
    rcases List.mem_append.mp hb with hb | hb
    · exact r.nF b hb
    · rw [List.mem_singleton.mp hb]
      exact ⟨hF, hG⟩
  · show (W.ph ++ [a]).Nodup
    exact List.nodup_append.mpr ⟨r.nd, by simp, fun b hb c hc => by rw [List.mem_singleton.mp hc]; exact fun z => hp (z ▸ hb)⟩
theorem ee_alloc {e : Expr} {m : Ma O} (h : EF X Wx e m) : EE X Wx e (mAlloc m) := PE.weak h fun σ H Q q => by
  obtain ⟨W, en, μ, r, p⟩ := q
  refine ⟨W, en, μ, r, ?_⟩
  unfold mAlloc at p
  cases z : m en μ with
  | bad => rw [z] at p; exact p
  | ex x e1 μ1 => rw [z] at p; exact p
  | ok o e1 μ1 =>
    rw [z] at p
    intro W1 H1 v x r1 f
    obtain ⟨a, rfl, f1, f2, f3, f4, f5⟩ := f
    refine p (W1.alloc a) H1 (.ref a) (x.trans Ext.alloc) ⟨r1.st.alloc f1 f2 f3 f4, r1.len, fun i d h => ?_, fun i o' h => ?_, r1.apart⟩ ?_
    · obtain ⟨v, g1, g2⟩ := r1.val i d h
      exact ⟨v, g1, RV.ext Ext.alloc _ _ g2⟩
    · obtain ⟨b, g1, g2, g3, g4, g5⟩ := r1.own i o' h
      refine ⟨b, g1, g2.ext Ext.alloc rfl, g3, g4, fun z => ?_⟩
      rcases List.mem_append.mp (show b ∈ W1.ph ++ [a] from z) with z | z
      · exact g5 z
      · have e : b = a := List.mem_singleton.mp z
        subst e
        exact f5 i ⟨o', h⟩ g1
    · show ∃ b, V.ref a = .ref b ∧ (W1.ph ++ [a])[μ1.length]? = some b
      refine ⟨a, rfl, ?_⟩
      rw [← r1.st.len]
      simp
end

/-! ### operators -/
def m1 (f : D → Ma D) (a : ME) : ME := mBind a f
def m2 {γ : Type} (f : D → D → Ma γ) (a b : ME) : Ma γ := mBind a fun x => mBind b fun y => f x y
/-- the reading r of two values is the function f -/
def OpL {γ δ : Type} (K : PySem.W.Frag) (Wx : WX) (rel : Rr γ δ) (r : V → V → Hp → (δ → Hp → Prop) → Prop) (f : D → D → Ma γ) : Prop :=
  ∀ σ W H e μ a b x y Q, Rel K W H e σ μ → RP K σ W H a x → RP K σ W H b y → Post K Wx rel W H σ (f a b e μ) Q → r x y H Q
def UnL {γ δ : Type} (K : PySem.W.Frag) (Wx : WX) (rel : Rr γ δ) (r : V → Hp → (δ → Hp → Prop) → Prop) (f : D → Ma γ) : Prop :=
  ∀ σ W H e μ a x Q, Rel K W H e σ μ → RP K σ W H a x → Post K Wx rel W H σ (f a e μ) Q → r x H Q
def ArL {γ δ : Type} (K : PySem.W.Frag) (Wx : WX) (rel : Rr γ δ) (r : List V → Hp → (δ → Hp → Prop) → Prop) (f : List D → Ma γ) : Prop :=
  ∀ σ W H e μ ds vs Q, Rel K W H e σ μ → RPs K σ W H ds vs → Post K Wx rel W H σ (f ds e μ) Q → r vs H Q
section
variable {X : Cx} {Wx : WX} {γ : Type} {rel : Rr γ V}
theorem tOp_of {r : R2} {f : D → D → Ma γ} {ma mb : ME} {σ : St} {H : Hp} {Q : VK} (l : OpL X.K Wx rel r f) (q : TR X.K Wx rel (m2 f ma mb) σ H Q) : tOp r (TR X.K Wx (relV X.K) ma) (TR X.K Wx (relV X.K) mb) σ H Q :=
  TR.two q fun W H e μ a b c d r z1 z2 p => l σ W H e μ a c b d Q r z1 z2 p
theorem ep_op {op : Operator} {r : R2} {f : D → D → Ma γ} {a b : Expr} {ma mb : ME} {pos : Pos} (ho : OpR X (binaryOp op) r) (l : OpL X.K Wx rel r f) (ha : EE X Wx a ma) (hb : EE X Wx b mb) : PE X (.BinOp a op b pos) (TR X.K Wx rel (m2 f ma mb)) :=
  PE.weak (pe_op ho ha hb) fun _ _ _ q => tOp_of l q
theorem ep_cmp {op : CmpOp} {r : R2} {f : D → D → Ma γ} {a b : Expr} {ma mb : ME} {pos : Pos} (ho : OpR X (compareOp op) r) (l : OpL X.K Wx rel r f) (ha : EE X Wx a ma) (hb : EE X Wx b mb) (hm : behindInMarks op b = false) : PE X (.Compare a [op] [b] pos) (TR X.K Wx rel (m2 f ma mb)) :=
  PE.weak (pe_cmpR ho ha hb hm) fun _ _ _ q => tOp_of l q
theorem ep_ix {r : R2} {f : D → D → Ma γ} {a b : Expr} {ma mb : ME} {pos : Pos} (ho : IxR X r) (l : OpL X.K Wx rel r f) (ha : EE X Wx a ma) (hb : EE X Wx b mb) (hs : PlainIx b) : PE X (.Subscript a b pos) (TR X.K Wx rel (m2 f ma mb)) :=
  PE.weak (pe_ix ho ha hb hs) fun _ _ _ q => tOp_of l q
theorem ep_un {op : UnaryOp} {r : V → Hp → VK → Prop} {f : D → Ma γ} {a : Expr} {ma : ME} {pos : Pos} (ho : UnR X (unaryOp op) r) (l : UnL X.K Wx rel r f) (ha : EE X Wx a ma) : PE X (.UnaryOp op a pos) (TR X.K Wx rel (mBind ma f)) :=
  PE.weak (pe_un ho ha) fun _ _ _ q => TR.one q fun W H e μ a b r z p => l _ W H e μ a b _ r z p
end

/-! ### argument lists, displays -/
def aNil : Ma (List D) := fun e μ => .ok [] e μ
def aCons (m : ME) (r : Ma (List D)) : Ma (List D) := mBind m fun d => mBind r fun ds => fun e μ => .ok (d :: ds) e μ
def O.items : O → Option (List D)
  | .lst xs => some xs
  | _ => none
/-- what a value, a slot's own object, an object of the store holds -/
def contE (e : En) (μ : Mu) : D → Option O
  | .lst xs => some (.lst xs)
  | .dic t ks vs => some (.dic t ks vs)
  | .ref n => μ[n]?
  | .loc i => (match e[i]? with
    | some (.own o) => some o
    | _ => none)
  | _ => none
def seqE (e : En) (μ : Mu) (d : D) : Option (List D) := match d with
  | .tup xs => some xs
  | .ktp xs => some xs
  | .scr xs => some xs
  | d => (contE e μ d).bind O.items
def D.isTup : D → Bool
  | .tup _ => true
  | .ktp _ => true
  | _ => false
def aStar (m : ME) (r : Ma (List D)) : Ma (List D) := mBind m fun d e μ => match seqE e μ d with
  | some xs => mBind r (fun ds e μ => .ok (xs ++ ds) e μ) e μ
  | none => .bad
section
variable {K : PySem.W.Frag} {W : Wd} {H : Hp} {e : En} {σ : St} {μ : Mu}
/-- it can be read: as RO, or frozen -/
def RdO (K : PySem.W.Frag) (W : Wd) (H : Hp) : O → Addr → Prop
  | .lst xs, a => ∃ vs, Rd H a (.lst vs) ∧ RVs K W H xs vs
  | .dic t ks ds, a => ∃ vs, DicO t H a ks vs ∧ RVs K W H ds vs
  | .ins C fs, a => ∃ dx fv, H a = some (.ins (He.ga K C) dx fv) ∧ fs.map (·.1) = fv.map (·.1) ∧ RVs K W H (fs.map (·.2)) (fv.map (·.2))
theorem RO.rd {o : O} {a : Addr} (h : RO K W H o a) : RdO K W H o a := by
  cases o with
  | lst xs =>
    obtain ⟨vs, h1, h2⟩ := h
    exact ⟨vs, .inl h1, h2⟩
  | dic t ks ds =>
    obtain ⟨vs, _, h1, h2⟩ := h
    exact ⟨vs, h1, h2⟩
  | ins C fs => exact h
theorem cont_ok (r : Rel K W H e σ μ) {d : D} {v : V} {o : O} (h : RP K σ W H d v) (q : contE e μ d = some o) : ∃ a, v = .ref a ∧ RdO K W H o a := by
  cases d with
  | lst xs =>
    cases q
    obtain ⟨a, vs, e1, _, h2, h3⟩ := h
    exact ⟨a, e1, vs, .inl h2, h3⟩
  | dic t ks ds =>
    cases q
    obtain ⟨a, vs, e1, _, h2, h3⟩ := h
    exact ⟨a, e1, vs, h2, h3⟩
  | ref n =>
    obtain ⟨a, e1, h1⟩ := h
    exact ⟨a, e1, (r.st.obj n o a q h1).rd⟩
  | loc i =>
    have q' : (match e[i]? with | some (.own o) => some o | _ => none) = some o := q
    cases z : e[i]? with
    | none => rw [z] at q'; cases q'
    | some l =>
      rw [z] at q'
      cases l with
      | no => cases q'
      | val d => cases q'
      | own o' =>
        cases q'
        obtain ⟨a, h1, h2, _⟩ := r.own i _ z
        have h' : σ[i]? = some (some v) := h
        rw [h1] at h'
        exact ⟨a, by cases h'; rfl, h2.rd⟩
  | _ => cases q
theorem seq_ok (r : Rel K W H e σ μ) {d : D} {v : V} {xs : List D} (h : RP K σ W H d v) (q : seqE e μ d = some xs) : ∃ a vs, v = .ref a ∧ RVs K W H xs vs ∧ ((d.isTup = true ∧ TupE K H a vs) ∨ (d.isTup = false ∧ SqL K H a vs)) := by
  have key : d.isTup = false → (contE e μ d).bind O.items = some xs → ∃ a vs, v = .ref a ∧ RVs K W H xs vs ∧ ((d.isTup = true ∧ TupE K H a vs) ∨ (d.isTup = false ∧ SqL K H a vs)) := fun hn q => by
    cases z : contE e μ d with
    | none => rw [z] at q; cases q
    | some o =>
      rw [z] at q
      cases o with
      | lst ys =>
        cases q
        obtain ⟨a, e1, vs, h1, h2⟩ := cont_ok r h z
        exact ⟨a, vs, e1, h2, .inr ⟨hn, .inl h1⟩⟩
      | _ => cases q
  cases d with
  | tup ys =>
    cases q
    obtain ⟨a, vs, e1, h1, h2⟩ := h
    exact ⟨a, vs, e1, h2, .inl ⟨rfl, .inl h1⟩⟩
  | ktp ys =>
    cases q
    obtain ⟨a, vs, e1, h1, h2⟩ := h
    exact ⟨a, vs, e1, h2, .inl ⟨rfl, .inr h1⟩⟩
  | scr ys =>
    cases q
    obtain ⟨a, vs, e1, h1, h2⟩ := h
    exact ⟨a, vs, e1, h2, .inr ⟨rfl, scrL h1⟩⟩
  | _ => exact key rfl q
theorem seq_any (r : Rel K W H e σ μ) {d : D} {v : V} {xs : List D} (h : RP K σ W H d v) (q : seqE e μ d = some xs) : ∃ a vs, v = .ref a ∧ RVs K W H xs vs ∧ (SqL K H a vs ∨ SqT K H a vs) := by
  obtain ⟨a, vs, e1, h1, h2⟩ := seq_ok r h q
  exact ⟨a, vs, e1, h1, h2.elim (fun z => .inr z.2.sq) (fun z => .inl z.2)⟩
theorem RPs.append : ∀ {ds es : List D} {vs ws : List V}, RPs K σ W H ds vs → RPs K σ W H es ws → RPs K σ W H (ds ++ es) (vs ++ ws)
  | [], _, _, _, h, h' => by
    rw [show _ = [] from h]
    exact h'
  | _ :: _, _, _, _, ⟨v, r, e, h1, h2⟩, h' => by
    subst e
    exact ⟨v, _, rfl, h1, RPs.append h2 h'⟩
end
section
variable {X : Cx} {Wx : WX}
theorem ea_nil : EA X Wx [] aNil := PA.weak pa_nil fun σ H Q q => by
  obtain ⟨W, en, μ, r, p⟩ := q
  exact Post.ok p r (b := []) rfl
theorem ea_cons {e : Expr} {es : List Expr} {m : ME} {ms : Ma (List D)} (he : EE X Wx e m) (hes : EA X Wx es ms) (hs : starEach (e :: es) X.env = (false, eval e X.env) :: starEach es X.env := by rfl) : EA X Wx (e :: es) (aCons m ms) :=
  PA.weak (pa_cons he hes hs) fun σ H Q q => by
    refine TR.two (relC := relVs X.K) (relB := relVs X.K) (f := fun d ds e μ => .ok (d :: ds) e μ) q fun W H e μ a b c d r z1 z2 p => ?_
    exact Post.ok p r (b := b :: d) ⟨b, d, rfl, z1, z2⟩
theorem ea_star {e : Expr} {es : List Expr} {m : ME} {ms : Ma (List D)} {sp : Pos} (he : EE X Wx e m) (hes : EA X Wx es ms) (hs : starEach (.Starred e sp :: es) X.env = (true, eval e X.env) :: starEach es X.env := by rfl) : EA X Wx (.Starred e sp :: es) (aStar m ms) :=
  PA.weak (StX.pa_star he hes hs) fun σ H Q q => by
    refine TR.one q fun W H1 en μ d v r z p => ?_
    cases hd : seqE en μ d with
    | none => rw [hd] at p; exact p.elim
    | some xs =>
      rw [hd] at p
      obtain ⟨a, vs, rfl, h1, h2⟩ := seq_any r z hd
      refine ⟨a, vs, rfl, h2.symm, W, en, μ, r, (Post.bind p).mono fun ys H2 ⟨W2, ds, e2, μ2, r2, z2, x2, p2⟩ => ?_⟩
      exact Post.ok p2 r2 (RPs.append (RPs.of (RVs.ext x2 _ _ h1)) z2)
end
end Ev

set_option maxRecDepth 100000
set_option maxHeartbeats 4000000
/-! Ev3: tests, and, or, not, if; operators on ints; displays of tuples and lists. -/
namespace Ev
open PySem PySem.Spec PyProof.Rows L2
variable [PWo]

theorem mBind_assoc {α β γ : Type} (m : Ma α) (f : α → Ma β) (g : β → Ma γ) : mBind (mBind m f) g = mBind m fun a => mBind (f a) g := by
  funext e μ
  unfold mBind Rs.bind
  cases m e μ with
  | ok a e1 μ1 => rfl
  | ex x e1 μ1 => rfl
  | bad => rfl
def toB (d : D) : Ma Bool := fun e μ => match d with
  | .bl b => .ok b e μ
  | _ => .bad
def mTest (m : ME) : Ma Bool := mBind m toB
def mOfB (m : Ma Bool) : ME := mBind m fun b e μ => .ok (.bl b) e μ
def mIfB {α : Type} (c : Ma Bool) (a b : Ma α) : Ma α := mBind c fun k => match k with
  | true => a
  | false => b
def mAnd (a b : Ma Bool) : Ma Bool := mIfB a b fun e μ => .ok false e μ
def mOr (a b : Ma Bool) : Ma Bool := mIfB a (fun e μ => .ok true e μ) b
def mNot (a : Ma Bool) : Ma Bool := mBind a fun k e μ => .ok (!k) e μ
/-- values of truth -/
def vAnd (a b : ME) : ME := mIfB (mTest a) b fun e μ => .ok (.bl false) e μ
def vOr (a b : ME) : ME := mIfB (mTest a) (fun e μ => .ok (.bl true) e μ) b
def vNot (a : ME) : ME := mBind (mTest a) fun k e μ => .ok (.bl (!k)) e μ
section
variable {K : PySem.W.Frag} {Wx : WX}
theorem toB_ok {σ : St} {W : Wd} {H : Hp} {e : En} {μ : Mu} {d : D} {z : V} {Q : Bool → Hp → Prop} (r : Rel K W H e σ μ) (h : RP K σ W H d z) (p : Post K Wx relB W H σ (toB d e μ) Q) : ∃ k, z = .bl k ∧ Q k H := by
  cases d with
  | bl b => exact ⟨b, h, Post.ok p r rfl⟩
  | _ => exact p.elim
/-- .. and what comes behind it -/
theorem toB_then {γ δ : Type} {rel : Rr γ δ} {σ : St} {W : Wd} {H : Hp} {e : En} {μ : Mu} {d : D} {z : V} {f : Bool → Ma γ} {Q : δ → Hp → Prop} (r : Rel K W H e σ μ) (h : RP K σ W H d z) (p : Post K Wx rel W H σ (mBind (toB d) f e μ) Q) : ∃ k, z = .bl k ∧ Post K Wx rel W H σ (f k e μ) Q := by
  cases d with
  | bl b => exact ⟨b, h, p⟩
  | _ => exact p.elim
theorem OpL.test {r : R2} {f : D → D → ME} (l : OpL K Wx (relV K) r f) : OpL K Wx relB (fun x y H (Q : Bool → Hp → Prop) => r x y H fun z H' => ∃ k, z = .bl k ∧ Q k H') (fun a b => mTest (f a b)) := fun σ W H e μ a b x y Q rl h1 h2 p =>
  l σ W H e μ a b x y _ rl h1 h2 ((Post.bind p).mono fun z H1 ⟨W1, d, e1, μ1, r1, z1, x1, p1⟩ => toB_ok r1 z1 p1)
end
section
variable {X : Cx} {Wx : WX}
/-- a test whatever its whole is -/
def EW (X : Cx) (Wx : WX) (e : Expr) (m : Ma Bool) : Prop := PW X e (TR X.K Wx relB m)
theorem EW.et {e : Expr} {m : Ma Bool} (h : EW X Wx e m) : ET X Wx e m := PW.pt h
theorem et_val {e : Expr} {m : ME} (h : EE X Wx e m) (he : ∀ whole, isTrue e X.env whole = (do let v ← whole; standAt e.pos; holding [v] (truthy v)) := by intro _; rfl) : ET X Wx e (mTest m) :=
  PT.weak (pt_val h he) fun σ H Q q => TR.one q fun W H e μ d z r h p => toB_ok r h p
theorem et_cmp {op : CmpOp} {r : R2} {f : D → D → ME} {a b : Expr} {ma mb : ME} {pos : Pos} (ho : OpR X (compareOp op) r) (l : OpL X.K Wx (relV X.K) r f) (ha : EE X Wx a ma) (hb : EE X Wx b mb) (hm : behindInMarks op b = false) :
    ET X Wx (.Compare a [op] [b] pos) (mTest (m2 f ma mb)) := PT.weak (pt_cmpR ho ha hb hm) fun σ H Q q => by
  have q' : TR X.K Wx relB (mBind ma fun x => mBind mb fun y => mTest (f x y)) σ H Q := by
    have e : mTest (m2 f ma mb) = mBind ma fun x => mBind mb fun y => mTest (f x y) := by
      unfold mTest m2
      rw [mBind_assoc]
      congr 1
      funext x
      rw [mBind_assoc]
    rw [← e]
    exact q
  exact TR.two q' fun W H e μ a b c d r z1 z2 p => l.test σ W H e μ a c b d Q r z1 z2 p
theorem mTest_ofB (m : Ma Bool) : mTest (mOfB m) = m := by
  funext e μ
  unfold mTest mOfB mBind Rs.bind toB
  cases m e μ <;> rfl
theorem et_not {e : Expr} {m : Ma Bool} {pos : Pos} (h : ET X Wx e m) : ET X Wx (.UnaryOp .Not e pos) (mNot m) := PT.weak (pt_not h) fun σ H Q q =>
  TR.one q fun W H e μ a b r z p => by
    cases z
    exact Post.ok p r rfl
theorem et_if {W : Wd} {H : Hp} {σ : St} {e : En} {μ : Mu} {γ δ : Type} {rel : Rr γ δ} {k : Bool} {a b : Ma γ} {Q : δ → Hp → Prop} {A B : Prop} {K : PySem.W.Frag} (r : Rel K W H e σ μ)
    (p : Post K Wx rel W H σ ((match k with | true => a | false => b) e μ) Q) (ha : Post K Wx rel W H σ (a e μ) Q → A) (hb : Post K Wx rel W H σ (b e μ) Q → B) : if k = true then A else B := by
  cases k with
  | true => exact iteT (ha p)
  | false => exact iteF (hb p)
theorem ew_and1 {a : Expr} {m : Ma Bool} {pos : Pos} (h : ET X Wx a m) : EW X Wx (.BoolOp .And [a] pos) m := pw_and1 h
theorem ew_or1 {a : Expr} {m : Ma Bool} {pos : Pos} (h : ET X Wx a m) : EW X Wx (.BoolOp .Or [a] pos) m := pw_or1 h
theorem ew_and {a b : Expr} {rest : List Expr} {m n : Ma Bool} {pos : Pos} (ha : ET X Wx a m) (hb : EW X Wx (.BoolOp .And (b :: rest) pos) n) : EW X Wx (.BoolOp .And (a :: b :: rest) pos) (mAnd m n) :=
  PW.weak (pw_and ha hb) fun σ H Q q => TR.one q fun W H e μ x y r z p => by
    cases z
    exact et_if r p (fun p => ⟨W, e, μ, r, p⟩) (fun p => Post.ok p r rfl)
theorem ew_or {a b : Expr} {rest : List Expr} {m n : Ma Bool} {pos : Pos} (ha : ET X Wx a m) (hb : EW X Wx (.BoolOp .Or (b :: rest) pos) n) : EW X Wx (.BoolOp .Or (a :: b :: rest) pos) (mOr m n) :=
  PW.weak (pw_or ha hb) fun σ H Q q => TR.one q fun W H e μ x y r z p => by
    cases z
    exact et_if r p (fun p => Post.ok p r rfl) (fun p => ⟨W, e, μ, r, p⟩)
theorem ee_one {op} {a : Expr} {m : ME} {pos : Pos} (h : EE X Wx a m) : EE X Wx (.BoolOp op [a] pos) m := pe_one h
theorem ee_and {a b : Expr} {rest : List Expr} {m n : ME} {pos : Pos} (ha : EE X Wx a m) (hb : EE X Wx (.BoolOp .And (b :: rest) pos) n) : EE X Wx (.BoolOp .And (a :: b :: rest) pos) (vAnd m n) :=
  PE.weak (pe_and ha hb) fun σ H Q q => by
    have q' : TR X.K Wx (relV X.K) (mBind m fun d => mBind (toB d) fun k => match k with | true => n | false => fun e μ => .ok (.bl false) e μ) σ H Q := by
      rw [← mBind_assoc]
      exact q
    refine TR.one q' fun W H e μ x y r z p => ?_
    obtain ⟨k, e1, p⟩ := toB_then r z p
    exact ⟨k, e1, et_if r p (fun p => ⟨W, e, μ, r, p⟩) (fun p => Post.ok p r rfl)⟩
theorem ee_or {a b : Expr} {rest : List Expr} {m n : ME} {pos : Pos} (ha : EE X Wx a m) (hb : EE X Wx (.BoolOp .Or (b :: rest) pos) n) : EE X Wx (.BoolOp .Or (a :: b :: rest) pos) (vOr m n) :=
  PE.weak (pe_or ha hb) fun σ H Q q => by
    have q' : TR X.K Wx (relV X.K) (mBind m fun d => mBind (toB d) fun k => match k with | true => fun e μ => .ok (.bl true) e μ | false => n) σ H Q := by
      rw [← mBind_assoc]
      exact q
    refine TR.one q' fun W H e μ x y r z p => ?_
    obtain ⟨k, e1, p⟩ := toB_then r z p
    exact ⟨k, e1, et_if r p (fun p => Post.ok p r rfl) (fun p => ⟨W, e, μ, r, p⟩)⟩
theorem ee_not {a : Expr} {m : ME} {pos : Pos} (ha : EE X Wx a m) : EE X Wx (.UnaryOp .Not a pos) (vNot m) :=
  PE.weak (pe_not ha) fun σ H Q q => by
    have q' : TR X.K Wx (relV X.K) (mBind m fun d => mBind (toB d) fun k e μ => .ok (.bl (!k)) e μ) σ H Q := by
      rw [← mBind_assoc]
      exact q
    refine TR.one q' fun W H e μ x y r z p => ?_
    obtain ⟨k, e1, p⟩ := toB_then r z p
    exact ⟨k, e1, Post.ok p r rfl⟩
/-- a if t else b; of any kind of result -/
theorem ep_if {γ : Type} {rel : Rr γ V} {c a b : Expr} {m : Ma Bool} {x y : Ma γ} {pos : Pos} (hc : ET X Wx c m) (ha : PE X a (TR X.K Wx rel x)) (hb : PE X b (TR X.K Wx rel y)) : PE X (.IfExp c a b pos) (TR X.K Wx rel (mIfB m x y)) :=
  PE.weak (pe_ifExp hc ha hb) fun σ H Q q => TR.one q fun W H e μ u v r z p => by
    cases z
    exact et_if r p (fun p => ⟨W, e, μ, r, p⟩) (fun p => ⟨W, e, μ, r, p⟩)
theorem ee_if {c a b : Expr} {m : Ma Bool} {x y : ME} {pos : Pos} (hc : ET X Wx c m) (ha : EE X Wx a x) (hb : EE X Wx b y) : EE X Wx (.IfExp c a b pos) (mIfB m x y) := ep_if hc ha hb
theorem ef_if {c a b : Expr} {m : Ma Bool} {x y : Ma O} {pos : Pos} (hc : ET X Wx c m) (ha : EF X Wx a x) (hb : EF X Wx b y) : EF X Wx (.IfExp c a b pos) (mIfB m x y) := ep_if hc ha hb
end

/-! ### displays -/
def lineB (n : Nat) : Bool := Nat.ble n 16777216
theorem lineB_ok {n : Nat} (h : lineB n = true) : n ≤ sizeLine := by
  rw [sizeLine_eq]
  exact Nat.le_of_ble_eq_true h
def mTup (m : Ma (List D)) : ME := mBind m fun ds e μ => match lineB ds.length && plains ds with
  | true => .ok (.tup ds) e μ
  | false => .bad
def mLst (m : Ma (List D)) : Ma O := mBind m fun ds e μ => match lineB ds.length && plains ds with
  | true => .ok (.lst ds) e μ
  | false => .bad
theorem same_upd {H : Hp} {p : Addr} {o : HO} (h : H p = none) : Same H (upd H p o) := fun b x e => by
  rw [upd_ne (ne_of_none e h)]
  exact e
section
variable {K : PySem.W.Frag} {Wx : WX} {W : Wd} {H : Hp} {σ : St} {e : En} {μ : Mu}
/-- a new tuple, its object in full -/
def NewT (H : Hp) (vs : List V) (Q : VK) : Prop := ∀ (p : Addr) (ob : Obj), H p = none → ob.dict = none → Q (.ref p) (upd H p (.frz ob (.tup vs)))
/-- a new tuple handed on -/
theorem new_tup {ds : List D} {vs : List V} {Q : VK} (r : Rel K W H e σ μ) (h : RVs K W H ds vs) (p : Post K Wx (relV K) W H σ (.ok (.tup ds) e μ) Q) : NewT H vs Q := fun a ob ha hd =>
  Post.same p r (same_upd ha) (RP.of ⟨a, vs, rfl, ⟨ob, upd_same, hd⟩, RVs.ext (Ext.same r.st (same_upd ha)) _ _ h⟩)
/-- a new tuple whose object nothing is known of -/
theorem new_ktp {ds : List D} {vs : List V} {Q : VK} (r : Rel K W H e σ μ) (h : RVs K W H ds vs) (p : Post K Wx (relV K) W H σ (.ok (.ktp ds) e μ) Q) : ∀ a, H a = none → Q (.ref a) (upd H a (.tup vs)) := fun a ha =>
  Post.same p r (same_upd ha) (RP.of ⟨a, vs, rfl, .inl upd_same, RVs.ext (Ext.same r.st (same_upd ha)) _ _ h⟩)
/-- laid -/
theorem lay_tup {X : Cx} {pins : List (Addr × Obj)} {s : Shared} {h' : Heap} {tk : Nat} {ys : List V} {its : List Value} {a : Addr} (I : Inv X pins σ H s) (k : ∀ b u, s.heap.get? b = some u → h'.get? b = some u) (hp : s.heap.objs.size ≤ a) (hz : ys.length ≤ sizeLine) (r : Vals ys its)
    (hn : h'.get? a = some { cls := .type "tuple", data := .seq its.toArray }) {Q : VK} (q : NewT H ys Q) : EP X pins σ Q (.ref a) { s with heap := h', toks := tk } :=
  ⟨.ref a, upd H a (.frz { cls := .type "tuple", data := .seq its.toArray } (.tup ys)), I.laid (t' := tk) k hp ⟨hn, hz, its, r, _, hn, rfl, _, rfl⟩, rfl, q a _ (I.hok.fresh hp) rfl⟩
theorem fresh_new {o : O} {ho : HO} {a : Addr} (r : Rel K W H e σ μ) (ha : H a = none) (h : RO K W (upd H a ho) o a) : Fresh K σ e W (upd H a ho) o a := by
  refine ⟨h, fun z => r.st.tr a (.inl z) ha, fun z => r.st.tr a (.inr z) ha, fun z => ?_, fun i hi z => ?_⟩
  · obtain ⟨n, hn, e1⟩ := List.getElem_of_mem z
    have hl := r.st.len
    have hm : n < μ.length := by omega
    exact (r.st.obj n μ[n] a (List.getElem?_eq_getElem hm) (by rw [List.getElem?_eq_getElem hn, e1])).nn ha
  · obtain ⟨o', hi⟩ := hi
    obtain ⟨b, h1, h2, _⟩ := r.own i o' hi
    rw [h1] at z
    have e1 : b = a := by cases z; rfl
    rw [e1] at h2
    exact h2.nn ha
/-- a new list handed on -/
theorem new_lst {ds : List D} {vs : List V} {Q : VK} (r : Rel K W H e σ μ) (h : RVs K W H ds vs) (p : Post K Wx (relO K) W H σ (.ok (.lst ds) e μ) Q) : ∀ a, H a = none → Q (.ref a) (upd H a (.lst vs)) := fun a ha =>
  Post.same p r (same_upd ha) ⟨a, rfl, fresh_new r ha ⟨vs, upd_same, RVs.ext (Ext.same r.st (same_upd ha)) _ _ h⟩⟩
end
section
variable {X : Cx} {Wx : WX}
def tTupF (t : TA) : TE := fun σ H Q => t σ H fun xs H1 => xs.length ≤ sizeLine ∧ NewT H1 xs Q
theorem pe_tupF {es : List Expr} {t : TA} {x1} {pos : Pos} (h : PA X es t) : PE X (.Tuple es x1 pos) (tTupF t) := by
  refine ⟨fun pins s σ H Q I hq => wpAny_Tuple_spliced (thn (h.run pos pins s σ H _ I hq) fun us s1 ⟨xs, H1, I1, r, z, q⟩ => ⟨by rw [← r.length]; exact z, ?_⟩)⟩
  exact lay_tup (tk := s1.toks) I1 (fun b u e => Heap.get?_push_of_some _ e) (Nat.le_refl _) z r (Heap.get?_push_size _ rfl) q
theorem ee_tup {es : List Expr} {m : Ma (List D)} {x1} {pos : Pos} (h : EA X Wx es m) : EE X Wx (.Tuple es x1 pos) (mTup m) := PE.weak (pe_tupF h) fun σ H Q q =>
  TR.one q fun W H e μ ds vs r z p => by
    cases c : lineB ds.length && plains ds with
    | false => rw [c] at p; exact p.elim
    | true =>
      rw [c] at p
      obtain ⟨c1, c2⟩ := Bool.and_eq_true_iff.mp c
      exact ⟨by rw [RPs.length z]; exact lineB_ok c1, new_tup r (RPs.vals z c2) p⟩
theorem ef_lst {es : List Expr} {m : Ma (List D)} {pos : Pos} (h : EA X Wx es m) : EF X Wx (.List es pos) (mLst m) := PE.weak (pe_lst h) fun σ H Q q =>
  TR.one q fun W H e μ ds vs r z p => by
    cases c : lineB ds.length && plains ds with
    | false => rw [c] at p; exact p.elim
    | true =>
      rw [c] at p
      obtain ⟨c1, c2⟩ := Bool.and_eq_true_iff.mp c
      exact ⟨by rw [RPs.length z]; exact lineB_ok c1, new_lst r (RPs.vals z c2) p⟩
end

/-! ### ints -/
def fInt (f : Int → Int → Option D) (a b : D) : ME := fun e μ => match a, b with
  | .int i, .int j => (match f i j with
    | some d => .ok d e μ
    | none => .bad)
  | _, _ => .bad
def isOkI (d : D) : Bool := match d with
  | .int _ => true
  | .bl _ => true
  | _ => false
section
variable {K : PySem.W.Frag} {Wx : WX}
theorem fInt_ok {f : Int → Int → Option D} {σ : St} {W : Wd} {H : Hp} {e : En} {μ : Mu} {a b : D} {x y : V} {Q : VK} (r : Rel K W H e σ μ) (h1 : RP K σ W H a x) (h2 : RP K σ W H b y) (p : Post K Wx (relV K) W H σ (fInt f a b e μ) Q) :
    ∃ i j d, x = .int i ∧ y = .int j ∧ f i j = some d ∧ Post K Wx (relV K) W H σ (.ok d e μ) Q := by
  cases a with
  | int i =>
    cases b with
    | int j =>
      have p' : Post K Wx (relV K) W H σ (match f i j with | some d => .ok d e μ | none => .bad) Q := p
      cases z : f i j with
      | none => rw [z] at p'; exact p'.elim
      | some d =>
        rw [z] at p'
        exact ⟨i, j, d, h1, h2, z, p'⟩
    | _ => exact p.elim
  | _ => exact p.elim
theorem opl_i {C : Int → Int → Prop} {g : Int → Int → V} {f : Int → Int → Option D} (h : ∀ i j d, f i j = some d → C i j ∧ ∀ W H, RV K W H d (g i j)) : OpL K Wx (relV K) (rI C g) (fInt f) := fun σ W H e μ a b x y Q r h1 h2 p => by
  obtain ⟨i, j, d, e1, e2, z, p⟩ := fInt_ok r h1 h2 p
  obtain ⟨c, k⟩ := h i j d z
  exact ⟨i, j, e1, e2, c, Post.ok p r (RP.of (k W H))⟩
theorem opl_i0 {g : Int → Int → V} {f : Int → Int → Option D} (h : ∀ i j d, f i j = some d → ∀ W H, RV K W H d (g i j)) : OpL K Wx (relV K) (rI0 g) (fInt f) := fun σ W H e μ a b x y Q r h1 h2 p => by
  obtain ⟨i, j, d, e1, e2, z, p⟩ := fInt_ok r h1 h2 p
  exact ⟨i, j, e1, e2, Post.ok p r (RP.of (h i j d z W H))⟩
end
def fSub : D → D → ME := fInt fun i j => some (.int (i - j))
/-- sizes are told by Nat.ble: that is never unfolded far -/
def szB (i : Int) : Bool := Nat.ble i.natAbs 1000000000000
theorem szB_ok {i : Int} (h : szB i = true) : -1000000000000 ≤ i ∧ i ≤ 1000000000000 := by
  have := Nat.le_of_ble_eq_true h
  omega
def szD (i : Int) : Bool := Nat.ble i.natAbs 1073741823
theorem szD_ok {i : Int} (h : szD i = true) : i < 1073741824 := by
  have := Nat.le_of_ble_eq_true h
  omega
def szM (i : Int) : Bool := Nat.ble i.natAbs 18446744073709551615
theorem szM_ok {i : Int} (h : szM i = true) : -(2 ^ 64) < i ∧ i < 2 ^ 64 := by
  have := Nat.le_of_ble_eq_true h
  omega
def mulB (i j : Int) : Bool := szM i || szM j
theorem mulB_ok {i j : Int} (h : mulB i j = true) : CMul i j := by
  rcases Bool.or_eq_true_iff.mp h with h | h
  · exact .inl (szM_ok h)
  · exact .inr (szM_ok h)
def fMod : D → D → ME := fInt fun i j => match decide (0 < j) with
  | true => some (.int (i % j))
  | false => none
def fDiv : D → D → ME := fInt fun i j => match decide (0 < j) && szD j with
  | true => some (.int (i / j))
  | false => none
def fPow : D → D → ME := fInt fun i j => match decide (0 ≤ j) && (Nat.ble j.natAbs 1000000 && szB i) with
  | true => some (.int (i ^ j.toNat))
  | false => none
def fLt : D → D → ME := fInt fun i j => some (.bl (decide (i < j)))
def fLe : D → D → ME := fInt fun i j => some (.bl (decide (i ≤ j)))
def fGt : D → D → ME := fInt fun i j => some (.bl (decide (j < i)))
def fGe : D → D → ME := fInt fun i j => some (.bl (decide (j ≤ i)))
section
variable {X : Cx} {Wx : WX} {a b : Expr} {ma mb : ME} {pos : Pos}
theorem l_sub : OpL X.K Wx (relV X.K) (rI0 fun i j => .int (i - j)) fSub := opl_i0 fun i j d z W H => by cases z; rfl
theorem l_lt : OpL X.K Wx (relV X.K) (rI0 fun i j => .bl (decide (i < j))) fLt := opl_i0 fun i j d z W H => by cases z; rfl
theorem l_le : OpL X.K Wx (relV X.K) (rI0 fun i j => .bl (decide (i ≤ j))) fLe := opl_i0 fun i j d z W H => by cases z; rfl
theorem l_gt : OpL X.K Wx (relV X.K) (rI0 fun i j => .bl (decide (j < i))) fGt := opl_i0 fun i j d z W H => by cases z; rfl
theorem l_ge : OpL X.K Wx (relV X.K) (rI0 fun i j => .bl (decide (j ≤ i))) fGe := opl_i0 fun i j d z W H => by cases z; rfl
theorem l_mod : OpL X.K Wx (relV X.K) (rI (fun _ j => 0 < j) fun i j => .int (i % j)) fMod := opl_i fun i j d z => by
  cases c : decide (0 < j) with
  | false => simp only [c] at z; cases z
  | true => simp only [c] at z; cases z; exact ⟨of_decide_eq_true c, fun _ _ => rfl⟩
theorem l_div : OpL X.K Wx (relV X.K) (rI CDiv fun i j => .int (i / j)) fDiv := opl_i fun i j d z => by
  cases c : decide (0 < j) && szD j with
  | false => simp only [c] at z; cases z
  | true =>
    simp only [c] at z
    cases z
    obtain ⟨c1, c2⟩ := Bool.and_eq_true_iff.mp c
    exact ⟨⟨of_decide_eq_true c1, szD_ok c2⟩, fun _ _ => rfl⟩
theorem l_pow : OpL X.K Wx (relV X.K) (rI CPow fun i j => .int (i ^ j.toNat)) fPow := opl_i fun i j d z => by
  cases c : decide (0 ≤ j) && (Nat.ble j.natAbs 1000000 && szB i) with
  | false => simp only [c] at z; cases z
  | true =>
    simp only [c] at z
    cases z
    obtain ⟨c1, c2⟩ := Bool.and_eq_true_iff.mp c
    obtain ⟨c2, c3⟩ := Bool.and_eq_true_iff.mp c2
    have c4 := szB_ok c3
    have c5 := Nat.le_of_ble_eq_true c2
    exact ⟨⟨of_decide_eq_true c1, by omega, by omega⟩, fun _ _ => rfl⟩
theorem ee_sub (ha : EE X Wx a ma) (hb : EE X Wx b mb) : EE X Wx (.BinOp a .Sub b pos) (m2 fSub ma mb) := ep_op op_sub l_sub ha hb
theorem ee_mod (ha : EE X Wx a ma) (hb : EE X Wx b mb) : EE X Wx (.BinOp a .Mod b pos) (m2 fMod ma mb) := ep_op op_mod l_mod ha hb
theorem ee_div (ha : EE X Wx a ma) (hb : EE X Wx b mb) : EE X Wx (.BinOp a .FloorDiv b pos) (m2 fDiv ma mb) := ep_op op_fdiv l_div ha hb
theorem ee_pow (ha : EE X Wx a ma) (hb : EE X Wx b mb) : EE X Wx (.BinOp a .Pow b pos) (m2 fPow ma mb) := ep_op op_pow l_pow ha hb
theorem ee_lt (ha : EE X Wx a ma) (hb : EE X Wx b mb) : EE X Wx (.Compare a [.Lt] [b] pos) (m2 fLt ma mb) := ep_cmp op_lt l_lt ha hb (nomark _)
theorem ee_le (ha : EE X Wx a ma) (hb : EE X Wx b mb) : EE X Wx (.Compare a [.LtE] [b] pos) (m2 fLe ma mb) := ep_cmp op_le l_le ha hb (nomark _)
theorem ee_gt (ha : EE X Wx a ma) (hb : EE X Wx b mb) : EE X Wx (.Compare a [.Gt] [b] pos) (m2 fGt ma mb) := ep_cmp op_gt l_gt ha hb (nomark _)
theorem ee_ge (ha : EE X Wx a ma) (hb : EE X Wx b mb) : EE X Wx (.Compare a [.GtE] [b] pos) (m2 fGe ma mb) := ep_cmp op_ge l_ge ha hb (nomark _)
theorem et_lt (ha : EE X Wx a ma) (hb : EE X Wx b mb) : ET X Wx (.Compare a [.Lt] [b] pos) (mTest (m2 fLt ma mb)) := et_cmp op_lt l_lt ha hb (nomark _)
theorem et_le (ha : EE X Wx a ma) (hb : EE X Wx b mb) : ET X Wx (.Compare a [.LtE] [b] pos) (mTest (m2 fLe ma mb)) := et_cmp op_le l_le ha hb (nomark _)
theorem et_gt (ha : EE X Wx a ma) (hb : EE X Wx b mb) : ET X Wx (.Compare a [.Gt] [b] pos) (mTest (m2 fGt ma mb)) := et_cmp op_gt l_gt ha hb (nomark _)
theorem et_ge (ha : EE X Wx a ma) (hb : EE X Wx b mb) : ET X Wx (.Compare a [.GtE] [b] pos) (mTest (m2 fGe ma mb)) := et_cmp op_ge l_ge ha hb (nomark _)
/-- a < b < c -/
def mChain (f g : D → D → ME) (a b c : ME) : ME := mBind a fun x => mBind b fun y => mBind (f x y) fun z => mBind (toB z) fun k => match k with
  | true => mBind c fun w => g y w
  | false => fun e μ => .ok (.bl false) e μ
theorem chain_of {r r' : R2} {f g : D → D → ME} {mc : ME} {σ : St} {H : Hp} {Q : VK} (l : OpL X.K Wx (relV X.K) r f) (l' : OpL X.K Wx (relV X.K) r' g) (q : TR X.K Wx (relV X.K) (mChain f g ma mb mc) σ H Q) :
    tChain r r' (TR X.K Wx (relV X.K) ma) (TR X.K Wx (relV X.K) mb) (TR X.K Wx (relV X.K) mc) σ H Q :=
  TR.two q fun W H e μ x vx y vy r z1 z2 p => by
    refine l σ W H e μ x y vx vy _ r z1 z2 ((Post.bind p).mono fun vz H1 ⟨W1, d, e1, μ1, r1, zz, x1, p1⟩ => ?_)
    obtain ⟨k, ek, p1⟩ := toB_then r1 zz p1
    refine ⟨k, ek, et_if r1 p1 (fun p2 => ?_) (fun p2 => Post.ok p2 r1 rfl)⟩
    refine ⟨W1, e1, μ1, r1, (Post.bind p2).mono fun vw H2 ⟨W2, w, e2, μ2, r2, zw, x2, p3⟩ => ?_⟩
    exact l' σ W2 H2 e2 μ2 y w vy vw Q r2 (RP.ext x2 (RP.ext x1 z2)) zw p3
theorem ee_chain {op op' : CmpOp} {r r' : R2} {f g : D → D → ME} {c : Expr} {mc : ME} (ho : OpR X (compareOp op) r) (ho' : OpR X (compareOp op') r') (l : OpL X.K Wx (relV X.K) r f) (l' : OpL X.K Wx (relV X.K) r' g) (ha : EE X Wx a ma) (hb : EE X Wx b mb) (hc : EE X Wx c mc)
    (hm : lastMarks [op, op'] [b, c] = false) : EE X Wx (.Compare a [op, op'] [b, c] pos) (mChain f g ma mb mc) := PE.weak (pe_chain ho ho' ha hb hc hm) fun σ H Q q => chain_of l l' q
theorem et_chain {op op' : CmpOp} {r r' : R2} {f g : D → D → ME} {c : Expr} {mc : ME} (ho : OpR X (compareOp op) r) (ho' : OpR X (compareOp op') r') (l : OpL X.K Wx (relV X.K) r f) (l' : OpL X.K Wx (relV X.K) r' g) (ha : EE X Wx a ma) (hb : EE X Wx b mb) (hc : EE X Wx c mc)
    (hm : lastMarks [op, op'] [b, c] = false) : ET X Wx (.Compare a [op, op'] [b, c] pos) (mTest (mChain f g ma mb mc)) := PT.weak (pt_chain ho ho' ha hb hc hm) fun σ H Q q => by
  show tChain _ _ _ _ _ σ H _
  refine chain_of l l' ?_
  obtain ⟨W, e, μ, r, p⟩ := q
  exact ⟨W, e, μ, r, (Post.bind p).mono fun z H1 ⟨W1, d, e1, μ1, r1, z1, x1, p1⟩ => toB_ok r1 z1 p1⟩
theorem ee_lele {c : Expr} {mc : ME} (ha : EE X Wx a ma) (hb : EE X Wx b mb) (hc : EE X Wx c mc) (hm : lastMarks [.LtE, .LtE] [b, c] = false := by with_unfolding_all rfl) : EE X Wx (.Compare a [.LtE, .LtE] [b, c] pos) (mChain fLe fLe ma mb mc) := ee_chain op_le op_le l_le l_le ha hb hc hm
theorem et_lele {c : Expr} {mc : ME} (ha : EE X Wx a ma) (hb : EE X Wx b mb) (hc : EE X Wx c mc) (hm : lastMarks [.LtE, .LtE] [b, c] = false := by with_unfolding_all rfl) : ET X Wx (.Compare a [.LtE, .LtE] [b, c] pos) (mTest (mChain fLe fLe ma mb mc)) := et_chain op_le op_le l_le l_le ha hb hc hm
end
end Ev

set_option maxRecDepth 100000
set_option maxHeartbeats 4000000
/-! Ev4: data as a whole: ==, in; sequences: item, cut, len, list, tuple, +, *. -/
namespace Ev
open PySem PySem.Spec PyProof.Rows L2
variable [PWo]

/-! ### data -/
mutual
def pdD : D → Option PyData
  | .non => some .none
  | .bl b => some (.bool b)
  | .int i => some (.int i)
  | .str x => some (.str x)
  | .tup xs => (match pdDs xs with
    | some ys => some (.tuple ys)
    | none => none)
  | .ktp xs => (match pdDs xs with
    | some ys => some (.tuple ys)
    | none => none)
  | .lst xs => (match pdDs xs with
    | some ys => some (.list ys)
    | none => none)
  | .scr xs => (match pdDs xs with
    | some ys => some (.list ys)
    | none => none)
  | .dic _ _ _ => none
  | .ref _ => none
  | .fn _ => none
  | .ty _ => none
  | .loc _ => none
def pdDs : List D → Option (List PyData)
  | [] => some []
  | d :: ds => (match pdD d, pdDs ds with
    | some p, some ps => some (p :: ps)
    | _, _ => none)
end
/-- the same, of a slot's or the store's list too -/
def pdE (e : En) (μ : Mu) (d : D) : Option PyData := match d with
  | .loc i => (match seqE e μ (.loc i) with
    | some xs => (pdDs xs).map .list
    | none => none)
  | .ref n => (match seqE e μ (.ref n) with
    | some xs => (pdDs xs).map .list
    | none => none)
  | d => pdD d
section
variable {K : PySem.W.Frag} {W : Wd} {H : Hp} {e : En} {σ : St} {μ : Mu}
theorem pdDs_cons {d : D} {ds : List D} {qs : List PyData} (h : pdDs (d :: ds) = some qs) : ∃ p ps, qs = p :: ps ∧ pdD d = some p ∧ pdDs ds = some ps := by
  rw [pdDs] at h
  cases h1 : pdD d with
  | none => rw [h1] at h; cases h
  | some p =>
    cases h2 : pdDs ds with
    | none => rw [h1, h2] at h; cases h
    | some ps =>
      rw [h1, h2] at h
      exact ⟨p, ps, (Option.some.inj h).symm, rfl, rfl⟩
mutual
theorem RV.dp : ∀ (d : D) (v : V) (p : PyData), RV K W H d v → pdD d = some p → Dp K H v p
  | .non, v, p, h, q => by
    cases q
    rw [show v = .non from h]
    exact .non
  | .bl b, v, p, h, q => by
    cases q
    rw [show v = .bl b from h]
    exact .bl b
  | .int i, v, p, h, q => by
    cases q
    rw [show v = .int i from h]
    exact .int i
  | .str x, v, p, h, q => by
    cases q
    rw [show v = .str x from h]
    exact .str x
  | .tup xs, v, p, h, q => by
    obtain ⟨a, vs, rfl, h1, h2⟩ := h
    rw [pdD] at q
    cases z : pdDs xs with
    | none => rw [z] at q; cases q
    | some ys =>
      rw [z] at q
      cases q
      exact .tup h1.sq (RVs.dp xs vs ys h2 z)
  | .ktp xs, v, p, h, q => by
    obtain ⟨a, vs, rfl, h1, h2⟩ := h
    rw [pdD] at q
    cases z : pdDs xs with
    | none => rw [z] at q; cases q
    | some ys =>
      rw [z] at q
      cases q
      exact .tup (TupE.sq (.inr h1)) (RVs.dp xs vs ys h2 z)
  | .lst xs, v, p, h, q => by
    obtain ⟨a, vs, rfl, _, h1, h2⟩ := h
    rw [pdD] at q
    cases z : pdDs xs with
    | none => rw [z] at q; cases q
    | some ys =>
      rw [z] at q
      cases q
      exact .lst (.inl (.inl h1)) (RVs.dp xs vs ys h2 z)
  | .scr xs, v, p, h, q => by
    obtain ⟨a, vs, rfl, h1, h2⟩ := h
    rw [pdD] at q
    cases z : pdDs xs with
    | none => rw [z] at q; cases q
    | some ys =>
      rw [z] at q
      cases q
      exact .lst (scrL h1) (RVs.dp xs vs ys h2 z)
  | .dic _ _ _, v, p, h, q => by cases q
  | .ref _, v, p, h, q => by cases q
  | .fn _, v, p, h, q => by cases q
  | .ty _, v, p, h, q => by cases q
  | .loc _, v, p, h, q => by cases q
theorem RVs.dp : ∀ (ds : List D) (vs : List V) (ps : List PyData), RVs K W H ds vs → pdDs ds = some ps → DpAll K H vs ps
  | [], vs, ps, h, q => by
    cases q
    rw [show vs = [] from h]
    exact .nil
  | d :: ds, vs, ps, h, q => by
    obtain ⟨v, r, rfl, h1, h2⟩ := h
    obtain ⟨p, qs, rfl, q1, q2⟩ := pdDs_cons q
    exact .cons (RV.dp d v p h1 q1) (RVs.dp ds r qs h2 q2)
end
theorem pdE_ok (r : Rel K W H e σ μ) {d : D} {v : V} {p : PyData} (h : RP K σ W H d v) (q : pdE e μ d = some p) : Dp K H v p := by
  have key : d.isTup = false → (match seqE e μ d with | some xs => (pdDs xs).map PyData.list | none => none) = some p → Dp K H v p := fun hn q => by
    cases z : seqE e μ d with
    | none => rw [z] at q; cases q
    | some xs =>
      rw [z] at q
      obtain ⟨a, vs, rfl, h1, h2⟩ := seq_ok r h z
      cases y : pdDs xs with
      | none =>
        simp only [y] at q
        cases q
      | some ps =>
        simp only [y] at q
        cases q
        rcases h2 with ⟨h2, _⟩ | ⟨_, h2⟩
        · rw [hn] at h2; cases h2
        · exact .lst h2 (RVs.dp xs vs ps h1 y)
  cases d with
  | loc i => exact key rfl q
  | ref n => exact key rfl q
  | _ => exact RV.dp _ _ _ h q
end
def negB (neg b : Bool) : Bool := match neg with
  | true => !b
  | false => b
/-- data without a dict, not too deep -/
def eqB (p : PyData) : Bool := p.plain && Nat.ble p.depth 64
def fEqB (neg : Bool) (a b : D) : ME := fun e μ => match pdE e μ a, pdE e μ b with
  | some p, some q => (match eqB p && eqB q with
    | true => .ok (.bl (negB neg (PyData.eqv p q))) e μ
    | false => .bad)
  | _, _ => .bad
def fEq : D → D → ME := fEqB false
def fNe : D → D → ME := fEqB true
section
variable {X : Cx} {Wx : WX} {a b : Expr} {ma mb : ME} {pos : Pos}
def rEqP (neg : Bool) (K : PySem.W.Frag) : R2 := fun x y H Q => ∃ d e, Dp K H x d ∧ Dp K H y e ∧ eqB d = true ∧ eqB e = true ∧ Q (.bl (negB neg (PyData.eqv d e))) H
theorem eqB_ok {p : PyData} (h : eqB p = true) : p.plain = true ∧ p.depth ≤ 64 := ⟨(Bool.and_eq_true_iff.mp h).1, Nat.le_of_ble_eq_true (Bool.and_eq_true_iff.mp h).2⟩
theorem op_eqP (hu : X.A.units + 64 < cLine) : OpR X (compareOp .Eq) (rEqP false X.K) := by
  intro pins s σ H x y v u Q I rx ry h
  obtain ⟨d, e, hd, he, sd, se, q⟩ := h
  obtain ⟨as, r1⟩ := Dp.reads I d x v hd rx
  obtain ⟨bs, r2⟩ := Dp.reads I e y u he ry
  have l := (eqB_ok sd).2
  exact SeqAt.eq_plain r1 r2 (eqB_ok sd).1 (eqB_ok se).1 (by omega) ⟨.bl _, H, I, rfl, q⟩
theorem op_neP (hu : X.A.units + 64 < cLine) : OpR X (compareOp .NotEq) (rEqP true X.K) := by
  intro pins s σ H x y v u Q I rx ry h
  obtain ⟨d, e, hd, he, sd, se, q⟩ := h
  obtain ⟨as, r1⟩ := Dp.reads I d x v hd rx
  obtain ⟨bs, r2⟩ := Dp.reads I e y u he ry
  have l := (eqB_ok sd).2
  exact SeqAt.ne_plain r1 r2 (eqB_ok sd).1 (eqB_ok se).1 (by omega) ⟨.bl _, H, I, rfl, q⟩
theorem l_eqB {neg : Bool} : OpL X.K Wx (relV X.K) (rEqP neg X.K) (fEqB neg) := fun σ W H e μ a b x y Q r h1 h2 p => by
  unfold fEqB at p
  cases z1 : pdE e μ a with
  | none => rw [z1] at p; exact p.elim
  | some d =>
    cases z2 : pdE e μ b with
    | none => rw [z1, z2] at p; exact p.elim
    | some q =>
      rw [z1, z2] at p
      cases z3 : eqB d && eqB q with
      | false => simp only [z3] at p; exact p.elim
      | true =>
        simp only [z3] at p
        obtain ⟨z4, z5⟩ := Bool.and_eq_true_iff.mp z3
        exact ⟨d, q, pdE_ok r h1 z1, pdE_ok r h2 z2, z4, z5, Post.ok p r (RP.of rfl)⟩
theorem l_eq : OpL X.K Wx (relV X.K) (rEqP false X.K) fEq := l_eqB
theorem l_ne : OpL X.K Wx (relV X.K) (rEqP true X.K) fNe := l_eqB
theorem ee_eq (hu : X.A.units + 64 < cLine) (ha : EE X Wx a ma) (hb : EE X Wx b mb) : EE X Wx (.Compare a [.Eq] [b] pos) (m2 fEq ma mb) := ep_cmp (op_eqP hu) l_eq ha hb (nomark _)
theorem ee_ne (hu : X.A.units + 64 < cLine) (ha : EE X Wx a ma) (hb : EE X Wx b mb) : EE X Wx (.Compare a [.NotEq] [b] pos) (m2 fNe ma mb) := ep_cmp (op_neP hu) l_ne ha hb (nomark _)
theorem et_eq (hu : X.A.units + 64 < cLine) (ha : EE X Wx a ma) (hb : EE X Wx b mb) : ET X Wx (.Compare a [.Eq] [b] pos) (mTest (m2 fEq ma mb)) := et_cmp (op_eqP hu) l_eq ha hb (nomark _)
theorem et_ne (hu : X.A.units + 64 < cLine) (ha : EE X Wx a ma) (hb : EE X Wx b mb) : ET X Wx (.Compare a [.NotEq] [b] pos) (mTest (m2 fNe ma mb)) := et_cmp (op_neP hu) l_ne ha hb (nomark _)
end

/-! ### is None -/
def isNon : D → Bool
  | .non => true
  | _ => false
def fIsN (neg : Bool) (a : D) : ME := fun e μ => .ok (.bl (match neg with | true => !isNon a | false => isNon a)) e μ
theorem isNon_ok {K : PySem.W.Frag} {σ : St} {W : Wd} {H : Hp} {d : D} {v : V} (h : RP K σ W H d v) (hl : ∀ i, d ≠ .loc i) : decide (v = .non) = isNon d := by
  cases d with
  | non => rw [show v = V.non from h]; rfl
  | bl b => rw [show v = V.bl b from h]; rfl
  | int b => rw [show v = V.int b from h]; rfl
  | str b => rw [show v = V.str b from h]; rfl
  | tup xs => obtain ⟨a, vs, rfl, _⟩ := h; rfl
  | ktp xs => obtain ⟨a, vs, rfl, _⟩ := h; rfl
  | lst xs => obtain ⟨a, vs, rfl, _⟩ := h; rfl
  | scr xs => obtain ⟨a, vs, rfl, _⟩ := h; rfl
  | dic t ks ds => obtain ⟨a, vs, rfl, _⟩ := h; rfl
  | ref n => obtain ⟨a, rfl, _⟩ := h; rfl
  | fn x => rw [show v = V.ref (He.ga K x) from h]; rfl
  | ty x => rw [show v = V.ty x.name from h]; rfl
  | loc i => exact absurd rfl (hl i)
def fIsNL (neg : Bool) (a : D) : ME := fun e μ => match a.plain with
  | true => fIsN neg a e μ
  | false => .bad
section
variable {X : Cx} {Wx : WX} {a : Expr} {ma : ME} {pos pos' : Pos} {j : Nat}
theorem plain_ne {d : D} (h : d.plain = true) (i : Nat) : d ≠ .loc i := by
  rintro rfl
  cases h
theorem ee_isN {j} (ha : EE X Wx a ma) : EE X Wx (.Compare a [.Is] [.Constant .none j pos'] pos) (mBind ma (fIsNL false)) := PE.weak (pe_cmp (pc_isN ha) (nobehind _ (by decide) (by decide))) fun σ H Q q =>
  TR.one q fun W H e μ d v r z p => by
    unfold fIsNL at p
    cases hp : d.plain with
    | false => rw [hp] at p; exact p.elim
    | true =>
      rw [hp] at p
      rw [isNon_ok z (plain_ne hp)]
      exact Post.ok p r (RP.of rfl)
theorem ee_notN {j} (ha : EE X Wx a ma) : EE X Wx (.Compare a [.IsNot] [.Constant .none j pos'] pos) (mBind ma (fIsNL true)) := PE.weak (pe_cmp (pc_notN ha) (nobehind _ (by decide) (by decide))) fun σ H Q q =>
  TR.one q fun W H e μ d v r z p => by
    unfold fIsNL at p
    cases hp : d.plain with
    | false => rw [hp] at p; exact p.elim
    | true =>
      rw [hp] at p
      rw [isNon_ok z (plain_ne hp)]
      exact Post.ok p r (RP.of rfl)
theorem TR.test {σ : St} {H : Hp} {K : PySem.W.Frag} {m : ME} {Q : Bool → Hp → Prop} (q : TR K Wx relB (mTest m) σ H Q) : TR K Wx (relV K) m σ H fun x H' => ∃ k, x = .bl k ∧ Q k H' := TR.one q fun W H e μ d z r h p => toB_ok r h p
theorem et_isN {j} (ha : EE X Wx a ma) : ET X Wx (.Compare a [.Is] [.Constant .none j pos'] pos) (mTest (mBind ma (fIsNL false))) := PT.weak (pt_cmp (pc_isN ha) (nobehind _ (by decide) (by decide))) fun σ H Q q =>
  TR.one (TR.test q |> fun z => z) fun W H e μ d v r z p => by
    unfold fIsNL at p
    cases hp : d.plain with
    | false => rw [hp] at p; exact p.elim
    | true =>
      rw [hp] at p
      rw [isNon_ok z (plain_ne hp)]
      exact Post.ok p r (RP.of rfl)
theorem et_notN {j} (ha : EE X Wx a ma) : ET X Wx (.Compare a [.IsNot] [.Constant .none j pos'] pos) (mTest (mBind ma (fIsNL true))) := PT.weak (pt_cmp (pc_notN ha) (nobehind _ (by decide) (by decide))) fun σ H Q q =>
  TR.one (TR.test q |> fun z => z) fun W H e μ d v r z p => by
    unfold fIsNL at p
    cases hp : d.plain with
    | false => rw [hp] at p; exact p.elim
    | true =>
      rw [hp] at p
      rw [isNon_ok z (plain_ne hp)]
      exact Post.ok p r (RP.of rfl)
end

/-! ### in, not in: flat items -/
def flatD : D → Bool
  | .non => true
  | .bl _ => true
  | .int _ => true
  | .str _ => true
  | _ => false
def eqF : D → D → Bool
  | .non, .non => true
  | .bl a, .bl b => a == b
  | .bl a, .int b => (if a then 1 else 0) == b
  | .int a, .bl b => a == (if b then 1 else 0)
  | .int a, .int b => a == b
  | .str a, .str b => a == b
  | _, _ => false
def inF (d : D) (xs : List D) : Bool := xs.any fun y => eqF y d
section
variable {K : PySem.W.Frag} {W : Wd} {H : Hp} {e : En} {σ : St} {μ : Mu}
def vF : D → V
  | .non => .non
  | .bl b => .bl b
  | .int i => .int i
  | .str x => .str x
  | _ => .non
theorem RV.flat {d : D} {v : V} (h : RV K W H d v) (f : flatD d = true) : v = vF d := by
  cases d with
  | non => exact h
  | bl b => exact h
  | int b => exact h
  | str b => exact h
  | _ => cases f
theorem RVs.flat : ∀ {ds : List D} {vs : List V}, RVs K W H ds vs → ds.all flatD = true → vs = ds.map vF
  | [], _, h, _ => h
  | d :: ds, _, ⟨v, r, e, h1, h2⟩, f => by
    simp only [List.all_cons, Bool.and_eq_true] at f
    rw [e, List.map_cons, h1.flat f.1, RVs.flat h2 f.2]
theorem flat_vF {d : D} (f : flatD d = true) : flatV (vF d) = true := by cases d <;> first | rfl | cases f
theorem flat_vFs : ∀ {ds : List D}, ds.all flatD = true → (ds.map vF).all flatV = true
  | [], _ => rfl
  | d :: ds, f => by
    simp only [List.all_cons, Bool.and_eq_true] at f
    simp only [List.map_cons, List.all_cons, Bool.and_eq_true]
    exact ⟨flat_vF f.1, flat_vFs f.2⟩
theorem eqV_vF {a b : D} (f : flatD a = true) (g : flatD b = true) : eqV (vF a) (vF b) = eqF a b := by
  cases a <;> first
    | (cases b <;> first
        | rfl
        | (cases g; done))
    | (cases f; done)
theorem inV_vF {d : D} (f : flatD d = true) : ∀ {ds : List D}, ds.all flatD = true → inV (vF d) (ds.map vF) = inF d ds
  | [], _ => rfl
  | x :: ds, g => by
    simp only [List.all_cons, Bool.and_eq_true] at g
    have ih := inV_vF f (ds := ds) g.2
    unfold inV inF at ih ⊢
    rw [List.map_cons, List.any_cons, List.any_cons, ih, eqV_vF g.1 f]
end
def fIn (neg : Bool) (a b : D) : ME := fun e μ => match seqE e μ b with
  | some xs => (match flatD a && xs.all flatD with
    | true => .ok (.bl (negB neg (inF a xs))) e μ
    | false => .bad)
  | none => .bad
section
variable {X : Cx} {Wx : WX} {a b : Expr} {ma mb : ME} {pos : Pos}
theorem fIn_ok {K : PySem.W.Frag} {neg : Bool} {σ : St} {W : Wd} {H : Hp} {e : En} {μ : Mu} {a b : D} {x y : V} {Q : VK} (r : Rel K W H e σ μ) (h1 : RP K σ W H a x) (h2 : RP K σ W H b y) (p : Post K Wx (relV K) W H σ (fIn neg a b e μ) Q) :
    rIn K neg x y H Q := by
  unfold fIn at p
  cases z : seqE e μ b with
  | none => rw [z] at p; exact p.elim
  | some xs =>
    rw [z] at p
    cases z2 : flatD a && xs.all flatD with
    | false => simp only [z2] at p; exact p.elim
    | true =>
      simp only [z2] at p
      obtain ⟨f1, f2⟩ := Bool.and_eq_true_iff.mp z2
      obtain ⟨q, vs, e1, g1, g2⟩ := seq_any r h2 z
      have h1' : RV K W H a x := h1.val (by cases a <;> first | rfl | cases f1)
      have ex := h1'.flat f1
      have ev := RVs.flat g1 f2
      subst ex ev
      refine ⟨q, _, e1, g2, flat_vF f1, flat_vFs f2, ?_⟩
      rw [inV_vF f1 f2]
      have p' : Q (.bl (negB neg (inF a xs))) H := Post.ok p r (RP.of rfl)
      cases neg <;> exact p'
theorem l_in : OpL X.K Wx (relV X.K) (rIn X.K false) (fIn false) := fun σ W H e μ a b x y Q r h1 h2 p => fIn_ok r h1 h2 p
theorem l_notin : OpL X.K Wx (relV X.K) (rIn X.K true) (fIn true) := fun σ W H e μ a b x y Q r h1 h2 p => fIn_ok r h1 h2 p
theorem ee_in (ha : EE X Wx a ma) (hb : EE X Wx b mb) (hm : behindInMarks .In b = false := by rfl) : EE X Wx (.Compare a [.In] [b] pos) (m2 (fIn false) ma mb) := ep_cmp op_in_seq l_in ha hb hm
theorem et_in (ha : EE X Wx a ma) (hb : EE X Wx b mb) (hm : behindInMarks .In b = false := by rfl) : ET X Wx (.Compare a [.In] [b] pos) (mTest (m2 (fIn false) ma mb)) := et_cmp op_in_seq l_in ha hb hm
theorem ee_notin (ha : EE X Wx a ma) (hb : EE X Wx b mb) (hm : behindInMarks .NotIn b = false := by rfl) : EE X Wx (.Compare a [.NotIn] [b] pos) (m2 (fIn true) ma mb) := ep_cmp op_notIn_seq l_notin ha hb hm
theorem et_notin (ha : EE X Wx a ma) (hb : EE X Wx b mb) (hm : behindInMarks .NotIn b = false := by rfl) : ET X Wx (.Compare a [.NotIn] [b] pos) (mTest (m2 (fIn true) ma mb)) := et_cmp op_notIn_seq l_notin ha hb hm
end

/-! ### items -/
def fIx (a b : D) : ME := fun e μ => match b with
  | .int i => (match a with
    | .str z => (match lineB z.length, atI z.cps.toList i with
      | true, some c => .ok (.str ⟨#[c]⟩) e μ
      | _, _ => .bad)
    | a => (match seqE e μ a with
      | some xs => (match atI xs i with
        | some d => .ok d e μ
        | none => .bad)
      | none => .bad))
  | _ => .bad
section
variable {K : PySem.W.Frag} {W : Wd} {H : Hp} {e : En} {σ : St} {μ : Mu}
theorem RVs.at_ {ds : List D} {vs : List V} {i : Int} {d : D} (h : RVs K W H ds vs) (z : atI ds i = some d) : ∃ v, atI vs i = some v ∧ RV K W H d v := by
  unfold atI at z ⊢
  rw [RVs.length h]
  cases q : ixN ds.length i with
  | none => rw [q] at z; cases z
  | some j =>
    rw [q] at z
    exact RVs.get h z
end
section
variable {X : Cx} {Wx : WX} {a b : Expr} {ma mb : ME} {pos : Pos}
theorem l_ix : OpL X.K Wx (relV X.K) (rIx X.K) fIx := fun σ W H e μ a b x y Q r h1 h2 p => by
  cases b with
  | int i =>
    have key : ∀ a : D, RP X.K σ W H a x → Post X.K Wx (relV X.K) W H σ (match seqE e μ a with
      | some xs => (match atI xs i with
        | some d => (.ok d e μ : Rs D)
        | none => .bad)
      | none => .bad) Q → rIx X.K x y H Q := fun a h1 p => by
      cases z : seqE e μ a with
      | none => rw [z] at p; exact p.elim
      | some xs =>
        rw [z] at p
        cases z2 : atI xs i with
        | none => simp only [z2] at p; exact p.elim
        | some d =>
          simp only [z2] at p
          obtain ⟨q, vs, e1, g1, g2⟩ := seq_any r h1 z
          obtain ⟨v, g3, g4⟩ := RVs.at_ g1 z2
          have hq : Q v H := Post.ok p r (RP.of g4)
          rcases g2 with g2 | g2
          · exact .inl ⟨q, vs, i, v, e1, h2, g2, g3, hq⟩
          · exact .inr (.inl ⟨q, vs, i, v, e1, h2, g2, g3, hq⟩)
    cases a with
    | str z =>
      have p' : Post X.K Wx (relV X.K) W H σ (match lineB z.length, atI z.cps.toList i with
        | true, some c => (.ok (.str ⟨#[c]⟩) e μ : Rs D)
        | _, _ => .bad) Q := p
      cases z1 : lineB z.length with
      | false => rw [z1] at p'; exact p'.elim
      | true =>
        cases z2 : atI z.cps.toList i with
        | none => rw [z1, z2] at p'; exact p'.elim
        | some c =>
          rw [z1, z2] at p'
          exact .inr (.inr ⟨z, i, c, h1, h2, lineB_ok z1, z2, Post.ok p' r (RP.of rfl)⟩)
    | _ => exact key _ h1 p
  | _ => exact p.elim
theorem ee_ix (ha : EE X Wx a ma) (hb : EE X Wx b mb) (hs : PlainIx b) : EE X Wx (.Subscript a b pos) (m2 fIx ma mb) := ep_ix ix_seq l_ix ha hb hs
end

/-! ### cuts -/
def cutD {α : Type} (xs : List α) (lo hi : Option Int) : List α := (xs.drop (HT.sIx xs.length 0 lo)).take (HT.sIx xs.length xs.length hi - HT.sIx xs.length 0 lo)
theorem RVs.cut {K : PySem.W.Frag} {W : Wd} {H : Hp} {ds : List D} {vs : List V} (h : RVs K W H ds vs) (lo hi : Option Int) : RVs K W H (cutD ds lo hi) (cutV vs lo hi) := by
  unfold cutD cutV
  rw [RVs.length h]
  exact RVs.take _ (RVs.drop _ h)
def oNone : Ma (Option Int) := fun e μ => .ok none e μ
def oSome (m : ME) : Ma (Option Int) := mBind m fun d e μ => match d with
  | .int i => .ok (some i) e μ
  | _ => .bad
abbrev relOI : Rr (Option Int) (Option Int) := fun _ _ _ _ a b => a = b
def EO (X : Cx) (Wx : WX) (e : Option Expr) (m : Ma (Option Int)) : Prop := PO X e (TR X.K Wx relOI m)
theorem PO.weak {X : Cx} {e : Option Expr} {t u : TO} (h : PO X e t) (k : ∀ σ H Q, u σ H Q → t σ H Q) : PO X e u := ⟨fun pins s σ H Q I q => h.run pins s σ H Q I (k σ H Q q)⟩
section
variable {X : Cx} {Wx : WX}
theorem eo_none : EO X Wx none oNone := PO.weak po_none fun σ H Q q => by
  obtain ⟨W, e, μ, r, p⟩ := q
  exact Post.ok p r rfl
theorem eo_some {e : Expr} {m : ME} (h : EE X Wx e m) : EO X Wx (some e) (oSome m) := PO.weak (po_some h) fun σ H Q q => TR.one q fun W H e μ d v r z p => by
  cases d with
  | int i => exact ⟨i, z, Post.ok p r rfl⟩
  | _ => exact p.elim
end
/-- a cut of a tuple or a text: a value; of a list: a new list -/
def fSlV (a : D) (lo hi : Option Int) : ME := fun e μ => match a with
  | .tup xs => .ok (.tup (cutD xs lo hi)) e μ
  | .lst xs => .ok (.lst (cutD xs lo hi)) e μ
  | .scr xs => .ok (.lst (cutD xs lo hi)) e μ
  | _ => .bad
def mSl (a : ME) (lo hi : Ma (Option Int)) : ME := mBind a fun x => mBind lo fun l => mBind hi fun h => fSlV x l h
section
variable {K : PySem.W.Frag} {Wx : WX} {W : Wd} {H : Hp} {e : En} {σ : St} {μ : Mu}
/-- a new list, a value at once -/
theorem new_lstV {ds : List D} {vs : List V} {Q : VK} (r : Rel K W H e σ μ) (h : RVs K W H ds vs) (p : Post K Wx (relV K) W H σ (.ok (.lst ds) e μ) Q) : ∀ a, H a = none → Q (.ref a) (upd H a (.lst vs)) := fun a ha => by
  have s := same_upd (o := .lst vs) ha
  have f : Fresh K σ e W (upd H a (.lst vs)) (.lst ds) a := fresh_new r ha ⟨vs, upd_same, RVs.ext (Ext.same r.st s) _ _ h⟩
  exact p (W.freeze a) _ _ ((Ext.same r.st s).trans Ext.freeze) (f.freeze (r.same s)) (RP.of (f.1.frozen rfl))
end
section
variable {X : Cx} {Wx : WX} {a : Expr} {ma : ME} {lo hi : Option Expr} {ml mh : Ma (Option Int)} {pos p2 : Pos}
def rSlF (K : PySem.W.Frag) : V → Option Int → Option Int → Hp → VK → Prop := fun x lo hi H Q => ∃ a xs, x = .ref a ∧ SqT K H a xs ∧
  (HT.sIx xs.length 0 lo = 0 ∧ HT.sIx xs.length xs.length hi = xs.length → Q (.ref a) H) ∧ (¬ (HT.sIx xs.length 0 lo = 0 ∧ HT.sIx xs.length xs.length hi = xs.length) → NewT H (cutV xs lo hi) Q)
theorem sl_tupF : SlR X (rSlF X.K) := by
  intro pins s σ H x v vl vu lo hi sl Q I rx hs pl pu ⟨a, xs, ex, hx, q1, q2⟩
  subst ex
  cases rx
  obtain ⟨its, r, ht, hz⟩ := I.tuple hx
  have hlen : its.toArray.size = xs.length := by rw [List.size_toArray]; exact r.length.symm
  refine ⟨"tuple", _, PyProof.Rows.slot_tuple_getitem.lookup, ht.typeIs, ?_⟩
  by_cases hw : HT.sIx xs.length 0 lo = 0 ∧ HT.sIx xs.length xs.length hi = xs.length
  · exact getItem_tuple_whole ht hs pl pu (by rw [hlen]; exact hw) ⟨.ref a, H, I, rfl, q1 hw⟩
  · refine HT.getItem_tuple_cut ht hs pl pu (by rw [hlen]; exact hw) ?_ (by rw [hlen]; exact hz)
    rw [hlen]
    exact lay_tup (tk := s.toks) I (fun b ob q => Heap.get?_push_of_some _ q) (Nat.le_refl _) (Nat.le_trans (cutV_length xs lo hi) hz) ((r.drop (HT.sIx xs.length 0 lo)).take (HT.sIx xs.length xs.length hi - HT.sIx xs.length 0 lo)) (Heap.get?_push_size _ rfl) (q2 hw)
def rSlB (K : PySem.W.Frag) : V → Option Int → Option Int → Hp → VK → Prop := fun x lo hi H Q => rSlF K x lo hi H Q ∨ rSlL K x lo hi H Q
theorem sl_both : SlR X (rSlB X.K) := sl_tupF.or sl_list
theorem ee_sl (ha : EE X Wx a ma) (hl : EO X Wx lo ml) (hh : EO X Wx hi mh) : EE X Wx (.Subscript a (.Slice lo hi none p2) pos) (mSl ma ml mh) := PE.weak (pe_slice sl_both ha hl hh) fun σ H Q q => by
  obtain ⟨W, e, μ, r, p⟩ := q
  refine ⟨W, e, μ, r, (Post.bind p).mono fun x H1 ⟨W1, d, e1, μ1, r1, z1, x1, p1⟩ => ?_⟩
  refine ⟨W1, e1, μ1, r1, (Post.bind p1).mono fun l H2 ⟨W2, l', e2, μ2, r2, z2, x2, p2⟩ => ?_⟩
  refine ⟨W2, e2, μ2, r2, (Post.bind p2).mono fun u H3 ⟨W3, u', e3, μ3, r3, z3, x3, p3⟩ => ?_⟩
  cases z2
  cases z3
  have zd : RP X.K σ W3 H3 d x := RP.ext x3 (RP.ext x2 z1)
  have lst : ∀ xs, (∃ a vs, x = .ref a ∧ SqL X.K H3 a vs ∧ RVs X.K W3 H3 xs vs) → Post X.K Wx (relV X.K) W3 H3 σ (.ok (.lst (cutD xs l u)) e3 μ3) Q → rSlB X.K x l u H3 Q := fun xs ⟨a, vs, ex, g1, g2⟩ p3 =>
    .inr ⟨a, vs, ex, g1, new_lstV r3 (RVs.cut g2 l u) p3⟩
  cases d with
  | tup xs =>
    obtain ⟨a, vs, ex, g1, g2⟩ := zd
    have g3 := RVs.cut g2 l u
    refine .inl ⟨a, vs, ex, g1.sq, fun hw => ?_, fun _ => new_tup r3 g3 p3⟩
    have ec : cutV vs l u = vs := by
      unfold cutV
      rw [hw.1, hw.2, Nat.sub_zero, List.drop_zero, List.take_length]
    rw [ec] at g3
    exact Post.ok p3 r3 (RP.of ⟨a, vs, rfl, g1, g3⟩)
  | lst xs =>
    obtain ⟨a, vs, ex, _, g1, g2⟩ := zd
    exact lst xs ⟨a, vs, ex, .inl (.inl g1), g2⟩ p3
  | scr xs =>
    obtain ⟨a, vs, ex, g1, g2⟩ := zd
    exact lst xs ⟨a, vs, ex, scrL g1, g2⟩ p3
  | _ => exact p3.elim
end

/-! ### calls of built-ins by values -/
section
variable {X : Cx} {Wx : WX} {γ : Type} {rel : Rr γ V} {x : Str} {p pos : Pos} {e : Expr} {es : List Expr} {id T : String} {r : List V → Hp → VK → Prop} {f : List D → Ma γ} {ml : Ma (List D)}
theorem ep_callB (hc : CallR X (.builtin id) r) (l : ArL X.K Wx rel r f) (hg : Gl X x) (hm : X.mg x = none) (hv : bootBuiltins x = some (.builtin id)) (ha : EA X Wx (e :: es) ml) (hn : x ≠ "__name__" := by decide) (hdb : (x == ("__debug__" : Str)) = false := by decide)
    (he : starEach (e :: es) X.env = (false, eval e X.env) :: starEach es X.env := by rfl) (hpl : (backTo pos (starEach es X.env)).any (·.1) = false := by rfl) : PE X (.Call (.Name x p) (e :: es) [] pos) (TR X.K Wx rel (mBind ml f)) :=
  PE.weak (pe_callB hc hg hm hv ha hn hdb he hpl) fun σ H Q q => TR.one q fun W H e μ ds vs r z p => l σ W H e μ ds vs Q r z p
theorem ep_callTy (hc : CallR X (.type T) r) (l : ArL X.K Wx rel r f) (hg : Gl X x) (hm : X.mg x = none) (hv : bootBuiltins x = some (.type T)) (ha : EA X Wx (e :: es) ml) (hn : x ≠ "__name__" := by decide) (hdb : (x == ("__debug__" : Str)) = false := by decide)
    (he : starEach (e :: es) X.env = (false, eval e X.env) :: starEach es X.env := by rfl) (hpl : (backTo pos (starEach es X.env)).any (·.1) = false := by rfl) : PE X (.Call (.Name x p) (e :: es) [] pos) (TR X.K Wx rel (mBind ml f)) :=
  PE.weak (pe_callTy hc hg hm hv ha hn hdb he hpl) fun σ H Q q => TR.one q fun W H e μ ds vs r z p => l σ W H e μ ds vs Q r z p
end
def one {γ : Type} (f : D → Ma γ) (ds : List D) : Ma γ := match ds with
  | [d] => f d
  | _ => fun _ _ => .bad
def two {γ : Type} (f : D → D → Ma γ) (ds : List D) : Ma γ := match ds with
  | [d, d'] => f d d'
  | _ => fun _ _ => .bad
section
variable {K : PySem.W.Frag} {Wx : WX} {γ δ : Type} {rel : Rr γ δ} {σ : St} {W : Wd} {H : Hp} {e : En} {μ : Mu}
theorem one_ok {f : D → Ma γ} {ds : List D} {vs : List V} {Q : δ → Hp → Prop} (h : RPs K σ W H ds vs) (p : Post K Wx rel W H σ (one f ds e μ) Q) : ∃ d v, ds = [d] ∧ vs = [v] ∧ RP K σ W H d v ∧ Post K Wx rel W H σ (f d e μ) Q := by
  match ds, h, p with
  | [d], h, p =>
    obtain ⟨v, r, e1, h1, h2⟩ := h
    rw [show r = [] from h2] at e1
    exact ⟨d, v, rfl, e1, h1, p⟩
  | [], _, p => exact p.elim
  | _ :: _ :: _, _, p => exact p.elim
theorem two_ok {f : D → D → Ma γ} {ds : List D} {vs : List V} {Q : δ → Hp → Prop} (h : RPs K σ W H ds vs) (p : Post K Wx rel W H σ (two f ds e μ) Q) : ∃ d d' v v', vs = [v, v'] ∧ RP K σ W H d v ∧ RP K σ W H d' v' ∧ Post K Wx rel W H σ (f d d' e μ) Q := by
  match ds, h, p with
  | [d, d'], h, p =>
    obtain ⟨v, r, e1, h1, v', r', e2, h2, h3⟩ := h
    rw [show r' = [] from h3] at e2
    rw [e2] at e1
    exact ⟨d, d', v, v', e1, h1, h2, p⟩
  | [], _, p => exact p.elim
  | [_], _, p => exact p.elim
  | _ :: _ :: _ :: _, _, p => exact p.elim
end
def fLen (d : D) : ME := fun e μ => match d with
  | .str z => (match lineB z.length with
    | true => .ok (.int z.length) e μ
    | false => .bad)
  | d => (match seqE e μ d with
    | some xs => .ok (.int xs.length) e μ
    | none => .bad)
def fListO (d : D) : Ma O := fun e μ => match seqE e μ d with
  | some xs => .ok (.lst xs) e μ
  | none => .bad
def fTuple (d : D) : ME := fun e μ => match seqE e μ d with
  | some xs => (match d with
    | .ktp _ => .bad
    | _ => .ok (.tup xs) e μ)
  | none => .bad
section
variable {X : Cx} {Wx : WX} {p pos : Pos} {e : Expr} {es : List Expr} {ml : Ma (List D)}
theorem l_len : ArL X.K Wx (relV X.K) (fun xs H Q => (∃ p ys, xs = [.ref p] ∧ (SqL X.K H p ys ∨ SqT X.K H p ys) ∧ Q (.int ys.length) H) ∨ (∃ z, xs = [.str z] ∧ z.length ≤ sizeLine ∧ Q (.int z.length) H)) (one fLen) := fun σ W H e μ ds vs Q r h p => by
  obtain ⟨d, v, rfl, rfl, h1, p⟩ := one_ok h p
  have key : Post X.K Wx (relV X.K) W H σ (match seqE e μ d with
    | some xs => (.ok (.int xs.length) e μ : Rs D)
    | none => .bad) Q → (∃ p ys, [v] = [V.ref p] ∧ (SqL X.K H p ys ∨ SqT X.K H p ys) ∧ Q (.int ys.length) H) ∨ (∃ z, [v] = [V.str z] ∧ z.length ≤ sizeLine ∧ Q (.int z.length) H) := fun p => by
    cases z : seqE e μ d with
    | none => rw [z] at p; exact p.elim
    | some xs =>
      rw [z] at p
      obtain ⟨a, vs, e1, g1, g2⟩ := seq_any r h1 z
      refine .inl ⟨a, vs, by rw [e1], g2, ?_⟩
      rw [RVs.length g1]
      exact Post.ok p r (RP.of rfl)
  cases d with
  | str z =>
    have p' : Post X.K Wx (relV X.K) W H σ (match lineB z.length with
      | true => (.ok (.int z.length) e μ : Rs D)
      | false => .bad) Q := p
    cases z1 : lineB z.length with
    | false => rw [z1] at p'; exact p'.elim
    | true =>
      rw [z1] at p'
      exact .inr ⟨z, by rw [show v = V.str z from h1], lineB_ok z1, Post.ok p' r (RP.of rfl)⟩
  | _ => exact key p
theorem ee_len (hg : Gl X "len") (hm : X.mg "len" = none) (ha : EA X Wx [e] ml) (he : starEach [e] X.env = (false, eval e X.env) :: starEach [] X.env := by rfl) : EE X Wx (.Call (.Name "len" p) [e] [] pos) (mBind ml (one fLen)) :=
  ep_callB (call_len_seq.or call_len_str) l_len hg hm PySem.boot_len ha (by decide) (by decide) he rfl
theorem l_list : ArL X.K Wx (relO X.K) (fun xs H Q => ∃ p ys, xs = [.ref p] ∧ (SqL X.K H p ys ∨ SqT X.K H p ys) ∧ ∀ l, H l = none → Q (.ref l) (upd H l (.lst ys))) (one fListO) := fun σ W H e μ ds vs Q r h p => by
  obtain ⟨d, v, rfl, rfl, h1, p⟩ := one_ok h p
  unfold fListO at p
  cases z : seqE e μ d with
  | none => rw [z] at p; exact p.elim
  | some xs =>
    rw [z] at p
    obtain ⟨a, vs, e1, g1, g2⟩ := seq_any r h1 z
    exact ⟨a, vs, by rw [e1], g2, new_lst r g1 p⟩
theorem ef_list (hg : Gl X "list") (hm : X.mg "list" = none) (hv : bootBuiltins "list" = some (.type "list")) (ha : EA X Wx [e] ml) (he : starEach [e] X.env = (false, eval e X.env) :: starEach [] X.env := by rfl) : EF X Wx (.Call (.Name "list" p) [e] [] pos) (mBind ml (one fListO)) :=
  ep_callTy call_list_of l_list hg hm hv ha (by decide) (by decide) he rfl
/-- tuple(x) -/
def rTupF (K : PySem.W.Frag) : List V → Hp → VK → Prop := fun xs H Q => ∃ p ys, xs = [.ref p] ∧ ((SqL K H p ys ∧ NewT H ys Q) ∨ (SqT K H p ys ∧ Q (.ref p) H))
theorem call_tupleF : CallR X (.type "tuple") (rTupF X.K) := by
  intro pins s σ H xs us Q I r ⟨p, ys, ex, h⟩
  subst ex
  obtain ⟨u, rfl, rx⟩ := vals1 r
  cases rx
  rcases h with ⟨hq, q⟩ | ⟨hq, q⟩
  · obtain ⟨its, r', pl, hz⟩ := I.list hq
    have hlen := r'.length
    refine call_tuple_list pl.isList (fun h' kp => ?_) (by simp only [List.size_toArray] <;> omega)
    have I1 : Inv X pins σ H { s with heap := h' } := I.kept (t' := s.toks) kp
    exact lay_tup (tk := s.toks) I1 (fun b o e => Heap.get?_push_of_some _ e) (Nat.le_refl _) hz r' (Heap.get?_push_size _ rfl) q
  · obtain ⟨its, r', pl, hz⟩ := I.tuple hq
    exact call_tuple_same pl ⟨.ref p, H, I, rfl, q⟩
theorem l_tuple : ArL X.K Wx (relV X.K) (rTupF X.K) (one fTuple) := fun σ W H e μ ds vs Q r h p => by
  obtain ⟨d, v, rfl, rfl, h1, p⟩ := one_ok h p
  unfold fTuple at p
  cases z : seqE e μ d with
  | none => rw [z] at p; exact p.elim
  | some xs =>
    rw [z] at p
    obtain ⟨a, vs, e1, g1, g2⟩ := seq_ok r h1 z
    refine ⟨a, vs, by rw [e1], ?_⟩
    have lst : d.isTup = false → SqL X.K H a vs → Post X.K Wx (relV X.K) W H σ (.ok (.tup xs) e μ) Q → (SqL X.K H a vs ∧ NewT H vs Q) ∨ (SqT X.K H a vs ∧ Q (.ref a) H) := fun _ g p => .inl ⟨g, new_tup r g1 p⟩
    rcases g2 with ⟨g2, g3⟩ | ⟨g2, g3⟩
    · cases d with
      | tup ys =>
        cases z
        obtain ⟨a', vs', e2, k1, k2⟩ := h1
        rw [e1] at e2
        cases e2
        refine .inr ⟨g3.sq, Post.ok (show Post X.K Wx (relV X.K) W H σ (.ok (.tup xs) e μ) Q from p) r (RP.of ⟨a, vs', rfl, k1, k2⟩)⟩
      | ktp ys =>
        simp only [z] at p
        exact p.elim
      | _ => cases g2
    · cases d with
      | tup ys => cases g2
      | ktp ys => cases g2
      | _ => exact lst g2 g3 (by simpa only [z] using p)
theorem ee_tuple (hg : Gl X "tuple") (hm : X.mg "tuple" = none) (hv : bootBuiltins "tuple" = some (.type "tuple")) (ha : EA X Wx [e] ml) (he : starEach [e] X.env = (false, eval e X.env) :: starEach [] X.env := by rfl) : EE X Wx (.Call (.Name "tuple" p) [e] [] pos) (mBind ml (one fTuple)) :=
  ep_callTy call_tupleF l_tuple hg hm hv ha (by decide) (by decide) he rfl
end

/-! ### + and * -/
theorem OpR.or {X : Cx} {f : Value → Value → Sem Value} {r r' : R2} (h : OpR X f r) (h' : OpR X f r') : OpR X f (fun x y H Q => r x y H Q ∨ r' x y H Q) := by
  intro pins s σ H x y v u Q I rx ry q
  rcases q with q | q
  · exact h pins s σ H x y v u Q I rx ry q
  · exact h' pins s σ H x y v u Q I rx ry q
end Ev

set_option maxRecDepth 100000
set_option maxHeartbeats 4000000
/-! Ev5: + and *; built-ins of ints and of truths; isinstance; methods of lists. -/
namespace Ev
open PySem PySem.Spec PyProof.Rows L2
variable [PWo]

/-- the items of a list that is no frozen one -/
def lstX (e : En) (μ : Mu) (d : D) : Option (List D) := match d with
  | .lst xs => some xs
  | .ref n => (match μ[n]? with
    | some (.lst xs) => some xs
    | _ => none)
  | .loc i => (match e[i]? with
    | some (.own (.lst xs)) => some xs
    | _ => none)
  | _ => none
section
variable {K : PySem.W.Frag} {W : Wd} {H : Hp} {e : En} {σ : St} {μ : Mu}
theorem lstX_ok (r : Rel K W H e σ μ) {d : D} {v : V} {xs : List D} (h : RP K σ W H d v) (q : lstX e μ d = some xs) : ∃ a vs, v = .ref a ∧ H a = some (.lst vs) ∧ RVs K W H xs vs := by
  cases d with
  | lst ys =>
    cases q
    obtain ⟨a, vs, e1, _, h1, h2⟩ := h
    exact ⟨a, vs, e1, h1, h2⟩
  | ref n =>
    have q' : (match μ[n]? with | some (.lst xs) => some xs | _ => none) = some xs := q
    obtain ⟨a, e1, h1⟩ := h
    cases z : μ[n]? with
    | none => rw [z] at q'; cases q'
    | some o =>
      rw [z] at q'
      cases o with
      | lst ys =>
        cases q'
        obtain ⟨vs, g1, g2⟩ := r.st.obj n _ a z h1
        exact ⟨a, vs, e1, g1, g2⟩
      | _ => cases q'
  | loc i =>
    have q' : (match e[i]? with | some (.own (.lst xs)) => some xs | _ => none) = some xs := q
    cases z : e[i]? with
    | none => rw [z] at q'; cases q'
    | some l =>
      rw [z] at q'
      cases l with
      | own o =>
        cases o with
        | lst ys =>
          cases q'
          obtain ⟨a, h1, ⟨vs, g1, g2⟩, _⟩ := r.own i _ z
          have h' : σ[i]? = some (some v) := h
          rw [h1] at h'
          exact ⟨a, vs, by cases h'; rfl, g1, g2⟩
        | _ => cases q'
      | _ => cases q'
  | _ => cases q
end
/-- a + b of ints, texts, tuples; of lists: a value at once -/
def fAdd (a b : D) : ME := fun e μ => match a, b with
  | .int i, .int j => .ok (.int (i + j)) e μ
  | .str x, .str y => (match lineB (x.length + y.length) with
    | true => .ok (.str (x ++ y)) e μ
    | false => .bad)
  | .tup xs, .tup ys => (match lineB (xs.length + ys.length) with
    | true => .ok (.tup (xs ++ ys)) e μ
    | false => .bad)
  | a, b => (match lstX e μ a, lstX e μ b with
    | some xs, some ys => (match lineB (xs.length + ys.length) with
      | true => .ok (.lst (xs ++ ys)) e μ
      | false => .bad)
    | _, _ => .bad)
/-- t + u, tuples: the new one's object in full -/
def rCatF (K : PySem.W.Frag) : R2 := fun x y H Q => ∃ a b xs ys, x = .ref a ∧ y = .ref b ∧ SqT K H a xs ∧ SqT K H b ys ∧ xs.length + ys.length ≤ sizeLine ∧
  (xs = [] → Q (.ref b) H) ∧ (xs ≠ [] → ys = [] → Q (.ref a) H) ∧ (xs ≠ [] → ys ≠ [] → NewT H (xs ++ ys) Q)
theorem op_catF {X : Cx} : OpR X (binaryOp .Add) (rCatF X.K) := by
  intro pins s σ H x y v u Q I rx ry ⟨a, b, xs, ys, ex, ey, ha, hb, hz, q0, q1, q2⟩
  subst ex ey
  cases rx
  cases ry
  obtain ⟨its, r1, p1, _⟩ := I.tuple ha
  obtain ⟨its2, r2, p2, _⟩ := I.tuple hb
  by_cases hx : xs = []
  · subst hx
    cases r1
    exact cat_tup0 p1 p2 ⟨.ref b, H, I, rfl, q0 rfl⟩
  · refine HT.cat_tup p1 p2 (fun z => hx (r1.nil_iff.mp z)) (fun z => ⟨.ref a, H, I, rfl, q1 hx (r2.nil_iff.mp z)⟩) (fun z => ?_) (by rw [← r1.length, ← r2.length]; exact hz)
    exact lay_tup (tk := s.toks) I (fun b ob q => Heap.get?_push_of_some _ q) (Nat.le_refl _) (by rw [List.length_append]; exact hz) (r1.append r2) (Heap.get?_push_size _ rfl) (q2 hx fun w => z (r2.nil_iff.mpr w))
def rAddA (K : PySem.W.Frag) : R2 := fun x y H Q => (rI0 fun i j => .int (i + j)) x y H Q ∨ (∃ u w, x = .str u ∧ y = .str w ∧ u.length + w.length ≤ sizeLine ∧ Q (.str (u ++ w)) H) ∨ rCatF K x y H Q ∨ rCat x y H Q
def fMul (a b : D) : ME := fun e μ => match a, b with
  | .int i, .int j => (match mulB i j with
    | true => .ok (.int (i * j)) e μ
    | false => .bad)
  | .tup xs, .int k => (match !xs.isEmpty && (decide (2 ≤ k) && (decide (k ≤ 1000) && Nat.ble xs.length 1000)) with
    | true => .ok (.ktp (List.replicate k.toNat xs).flatten) e μ
    | false => .bad)
  | a, .int k => (match lstX e μ a with
    | some xs => (match decide (0 ≤ k) && (decide (k ≤ 1000) && lineB (xs.length * k.toNat)) with
      | true => .ok (.lst (List.replicate k.toNat xs).flatten) e μ
      | false => .bad)
    | none => .bad)
  | _, _ => .bad
theorem RVs.rep {K : PySem.W.Frag} {W : Wd} {H : Hp} {ds : List D} {vs : List V} (h : RVs K W H ds vs) : ∀ k : Nat, RVs K W H (List.replicate k ds).flatten (List.replicate k vs).flatten
  | 0 => by simp [RVs]
  | k + 1 => by
    rw [List.replicate_succ, List.flatten_cons, List.replicate_succ, List.flatten_cons]
    exact RVs.append h (RVs.rep h k)
section
variable {X : Cx} {Wx : WX} {a b : Expr} {ma mb : ME} {pos : Pos}
theorem l_add : OpL X.K Wx (relV X.K) (rAddA X.K) fAdd := fun σ W H e μ a b x y Q r h1 h2 p => by
  have key : ∀ a b : D, RP X.K σ W H a x → RP X.K σ W H b y → Post X.K Wx (relV X.K) W H σ (match lstX e μ a, lstX e μ b with
    | some xs, some ys => (match lineB (xs.length + ys.length) with
      | true => (.ok (.lst (xs ++ ys)) e μ : Rs D)
      | false => .bad)
    | _, _ => .bad) Q → rAddA X.K x y H Q := fun a b h1 h2 p => by
    cases z1 : lstX e μ a with
    | none => rw [z1] at p; exact p.elim
    | some xs =>
      cases z2 : lstX e μ b with
      | none => rw [z1, z2] at p; exact p.elim
      | some ys =>
        rw [z1, z2] at p
        cases z3 : lineB (xs.length + ys.length) with
        | false => simp only [z3] at p; exact p.elim
        | true =>
          simp only [z3] at p
          obtain ⟨a1, v1, e1, g1, k1⟩ := lstX_ok r h1 z1
          obtain ⟨a2, v2, e2, g2, k2⟩ := lstX_ok r h2 z2
          exact .inr (.inr (.inr ⟨a1, a2, v1, v2, e1, e2, g1, g2, by rw [RVs.length k1, RVs.length k2]; exact lineB_ok z3, new_lstV r (RVs.append k1 k2) p⟩))
  cases a with
  | int i =>
    cases b with
    | int j => exact .inl ⟨i, j, h1, h2, Post.ok p r (RP.of rfl)⟩
    | _ => exact key _ _ h1 h2 p
  | str u =>
    cases b with
    | str w =>
      have p' : Post X.K Wx (relV X.K) W H σ (match lineB (u.length + w.length) with
        | true => (.ok (.str (u ++ w)) e μ : Rs D)
        | false => .bad) Q := p
      cases z3 : lineB (u.length + w.length) with
      | false => rw [z3] at p'; exact p'.elim
      | true =>
        rw [z3] at p'
        exact .inr (.inl ⟨u, w, h1, h2, lineB_ok z3, Post.ok p' r (RP.of rfl)⟩)
    | _ => exact key _ _ h1 h2 p
  | tup xs =>
    cases b with
    | tup ys =>
      have p' : Post X.K Wx (relV X.K) W H σ (match lineB (xs.length + ys.length) with
        | true => (.ok (.tup (xs ++ ys)) e μ : Rs D)
        | false => .bad) Q := p
      cases z3 : lineB (xs.length + ys.length) with
      | false => rw [z3] at p'; exact p'.elim
      | true =>
        rw [z3] at p'
        obtain ⟨a1, v1, rfl, g1, k1⟩ := h1
        obtain ⟨a2, v2, rfl, g2, k2⟩ := h2
        have k3 := RVs.append k1 k2
        refine .inr (.inr (.inl ⟨a1, a2, v1, v2, rfl, rfl, g1.sq, g2.sq, by rw [RVs.length k1, RVs.length k2]; exact lineB_ok z3, fun z => ?_, fun _ z => ?_, fun _ _ => new_tup r k3 p'⟩))
        · rw [z, List.nil_append] at k3
          exact Post.ok p' r (RP.of ⟨a2, v2, rfl, g2, k3⟩)
        · rw [z, List.append_nil] at k3
          exact Post.ok p' r (RP.of ⟨a1, v1, rfl, g1, k3⟩)
    | _ => exact key _ _ h1 h2 p
  | _ => exact key _ _ h1 h2 p
theorem ee_add (ha : EE X Wx a ma) (hb : EE X Wx b mb) : EE X Wx (.BinOp a .Add b pos) (m2 fAdd ma mb) := ep_op (op_add.or (op_add_str.or (op_catF.or op_cat))) l_add ha hb
def rMulA (K : PySem.W.Frag) : R2 := fun x y H Q => (rI CMul fun i j => .int (i * j)) x y H Q ∨ rRepT K x y H Q ∨ rRep x y H Q
theorem l_mul : OpL X.K Wx (relV X.K) (rMulA X.K) fMul := fun σ W H e μ a b x y Q r h1 h2 p => by
  cases b with
  | int k =>
    have key : ∀ a : D, RP X.K σ W H a x → Post X.K Wx (relV X.K) W H σ (match lstX e μ a with
      | some xs => (match decide (0 ≤ k) && (decide (k ≤ 1000) && lineB (xs.length * k.toNat)) with
        | true => (.ok (.lst (List.replicate k.toNat xs).flatten) e μ : Rs D)
        | false => .bad)
      | none => .bad) Q → rMulA X.K x y H Q := fun a h1 p => by
      cases z1 : lstX e μ a with
      | none => rw [z1] at p; exact p.elim
      | some xs =>
        rw [z1] at p
        cases z3 : decide (0 ≤ k) && (decide (k ≤ 1000) && lineB (xs.length * k.toNat)) with
        | false => simp only [z3] at p; exact p.elim
        | true =>
          simp only [z3] at p
          obtain ⟨c1, c2⟩ := Bool.and_eq_true_iff.mp z3
          obtain ⟨c2, c3⟩ := Bool.and_eq_true_iff.mp c2
          obtain ⟨a1, v1, e1, g1, k1⟩ := lstX_ok r h1 z1
          have k0 := of_decide_eq_true c1
          have k9 := of_decide_eq_true c2
          exact .inr (.inr ⟨a1, k, v1, e1, h2, g1, by omega, by omega, by rw [RVs.length k1]; exact lineB_ok c3, new_lstV r (RVs.rep k1 _) p⟩)
    cases a with
    | int i =>
      have p' : Post X.K Wx (relV X.K) W H σ (match mulB i k with
        | true => (.ok (.int (i * k)) e μ : Rs D)
        | false => .bad) Q := p
      cases z : mulB i k with
      | false => rw [z] at p'; exact p'.elim
      | true =>
        rw [z] at p'
        exact .inl ⟨i, k, h1, h2, mulB_ok z, Post.ok p' r (RP.of rfl)⟩
    | tup xs =>
      have p' : Post X.K Wx (relV X.K) W H σ (match !xs.isEmpty && (decide (2 ≤ k) && (decide (k ≤ 1000) && Nat.ble xs.length 1000)) with
        | true => (.ok (.ktp (List.replicate k.toNat xs).flatten) e μ : Rs D)
        | false => .bad) Q := p
      cases z : !xs.isEmpty && (decide (2 ≤ k) && (decide (k ≤ 1000) && Nat.ble xs.length 1000)) with
      | false => rw [z] at p'; exact p'.elim
      | true =>
        rw [z] at p'
        obtain ⟨c1, c2⟩ := Bool.and_eq_true_iff.mp z
        obtain ⟨c2, c3⟩ := Bool.and_eq_true_iff.mp c2
        obtain ⟨c3, c4⟩ := Bool.and_eq_true_iff.mp c3
        obtain ⟨a1, v1, rfl, g1, k1⟩ := h1
        have hl := RVs.length k1
        refine .inr (.inl ⟨a1, k, v1, rfl, h2, g1.sq, fun z => ?_, of_decide_eq_true c2, of_decide_eq_true c3, by rw [hl]; exact Nat.le_of_ble_eq_true c4, new_ktp r (RVs.rep k1 _) p'⟩)
        rw [z] at hl
        cases xs with
        | nil => cases c1
        | cons d ds => cases hl
    | _ => exact key _ h1 p
  | _ => cases a <;> exact p.elim
theorem ee_mul (ha : EE X Wx a ma) (hb : EE X Wx b mb) : EE X Wx (.BinOp a .Mult b pos) (m2 fMul ma mb) := ep_op (op_mul.or (op_repT.or op_rep)) l_mul ha hb
end

/-! ### ints, truths -/
def intsD : List D → Option (List Int)
  | [] => some []
  | .int i :: r => (match intsD r with
    | some ns => some (i :: ns)
    | none => none)
  | _ :: _ => none
def blsD : List D → Option (List Bool)
  | [] => some []
  | .bl i :: r => (match blsD r with
    | some ns => some (i :: ns)
    | none => none)
  | _ :: _ => none
theorem intsD_ok {K : PySem.W.Frag} {W : Wd} {H : Hp} : ∀ {ds : List D} {vs : List V} {ns : List Int}, RVs K W H ds vs → intsD ds = some ns → vs = ns.map V.int
  | [], _, _, h, q => by
    cases q
    exact h
  | d :: ds, _, ns, ⟨v, r, e, h1, h2⟩, q => by
    cases d with
    | int i =>
      rw [intsD] at q
      cases z : intsD ds with
      | none => rw [z] at q; cases q
      | some ms =>
        rw [z] at q
        cases q
        rw [e, show v = V.int i from h1, intsD_ok h2 z]
        rfl
    | _ => cases q
theorem blsD_ok {K : PySem.W.Frag} {W : Wd} {H : Hp} : ∀ {ds : List D} {vs : List V} {ns : List Bool}, RVs K W H ds vs → blsD ds = some ns → vs = ns.map V.bl
  | [], _, _, h, q => by
    cases q
    exact h
  | d :: ds, _, ns, ⟨v, r, e, h1, h2⟩, q => by
    cases d with
    | bl i =>
      rw [blsD] at q
      cases z : blsD ds with
      | none => rw [z] at q; cases q
      | some ms =>
        rw [z] at q
        cases q
        rw [e, show v = V.bl i from h1, blsD_ok h2 z]
        rfl
    | _ => cases q
def maxI : Int → List Int → Int
  | a, [] => a
  | a, b :: r => maxI (if a < b then b else a) r
def minI : Int → List Int → Int
  | a, [] => a
  | a, b :: r => minI (if b < a then b else a) r
theorem maxI_ok : ∀ (a : Int) (r : List Int), maxI a r ∈ a :: r ∧ ∀ y ∈ a :: r, y ≤ maxI a r
  | a, [] => ⟨List.mem_cons_self, fun y hy => by rw [List.mem_singleton.mp hy]; exact Int.le_refl _⟩
  | a, b :: r => by
    obtain ⟨h1, h2⟩ := maxI_ok (if a < b then b else a) r
    rw [maxI]
    have h3 := h2 _ List.mem_cons_self
    refine ⟨?_, fun y hy => ?_⟩
    · rcases List.mem_cons.mp h1 with h1 | h1
      · rw [h1]
        split
        · exact List.mem_cons_of_mem _ List.mem_cons_self
        · exact List.mem_cons_self
      · exact List.mem_cons_of_mem _ (List.mem_cons_of_mem _ h1)
    · rcases List.mem_cons.mp hy with rfl | hy
      · refine Int.le_trans ?_ h3
        split <;> omega
      · rcases List.mem_cons.mp hy with rfl | hy
        · refine Int.le_trans ?_ h3
          split <;> omega
        · exact h2 y (List.mem_cons_of_mem _ hy)
theorem minI_ok : ∀ (a : Int) (r : List Int), minI a r ∈ a :: r ∧ ∀ y ∈ a :: r, minI a r ≤ y
  | a, [] => ⟨List.mem_cons_self, fun y hy => by rw [List.mem_singleton.mp hy]; exact Int.le_refl _⟩
  | a, b :: r => by
    obtain ⟨h1, h2⟩ := minI_ok (if b < a then b else a) r
    rw [minI]
    have h3 := h2 _ List.mem_cons_self
    refine ⟨?_, fun y hy => ?_⟩
    · rcases List.mem_cons.mp h1 with h1 | h1
      · rw [h1]
        split
        · exact List.mem_cons_of_mem _ List.mem_cons_self
        · exact List.mem_cons_self
      · exact List.mem_cons_of_mem _ (List.mem_cons_of_mem _ h1)
    · rcases List.mem_cons.mp hy with rfl | hy
      · refine Int.le_trans h3 ?_
        split <;> omega
      · rcases List.mem_cons.mp hy with rfl | hy
        · refine Int.le_trans h3 ?_
          split <;> omega
        · exact h2 y (List.mem_cons_of_mem _ hy)
def fSum (d : D) : ME := fun e μ => match d.isTup, (seqE e μ d).bind intsD with
  | false, some ns => .ok (.int ns.sum) e μ
  | _, _ => .bad
def fMax (d : D) : ME := fun e μ => match d.isTup, (seqE e μ d).bind intsD with
  | false, some (a :: r) => .ok (.int (maxI a r)) e μ
  | _, _ => .bad
def fMin (d : D) : ME := fun e μ => match d.isTup, (seqE e μ d).bind intsD with
  | false, some (a :: r) => .ok (.int (minI a r)) e μ
  | _, _ => .bad
def fAll (d : D) : ME := fun e μ => match d.isTup, (seqE e μ d).bind blsD with
  | false, some bs => .ok (.bl (bs.all id)) e μ
  | _, _ => .bad
def fAny (d : D) : ME := fun e μ => match d.isTup, (seqE e μ d).bind blsD with
  | false, some bs => .ok (.bl (bs.any id)) e μ
  | _, _ => .bad
section
variable {K : PySem.W.Frag} {W : Wd} {H : Hp} {e : En} {σ : St} {μ : Mu}
theorem ints_of (r : Rel K W H e σ μ) {d : D} {v : V} {ns : List Int} (h : RP K σ W H d v) (t : d.isTup = false) (q : (seqE e μ d).bind intsD = some ns) : ∃ a, v = .ref a ∧ SqL K H a (ns.map V.int) := by
  cases z : seqE e μ d with
  | none => rw [z] at q; cases q
  | some xs =>
    rw [z] at q
    obtain ⟨a, vs, e1, g1, g2⟩ := seq_ok r h z
    have ev := intsD_ok g1 q
    subst ev
    rcases g2 with ⟨g2, _⟩ | ⟨_, g2⟩
    · rw [t] at g2; cases g2
    · exact ⟨a, e1, g2⟩
theorem bls_of (r : Rel K W H e σ μ) {d : D} {v : V} {ns : List Bool} (h : RP K σ W H d v) (t : d.isTup = false) (q : (seqE e μ d).bind blsD = some ns) : ∃ a, v = .ref a ∧ SqL K H a (ns.map V.bl) := by
  cases z : seqE e μ d with
  | none => rw [z] at q; cases q
  | some xs =>
    rw [z] at q
    obtain ⟨a, vs, e1, g1, g2⟩ := seq_ok r h z
    have ev := blsD_ok g1 q
    subst ev
    rcases g2 with ⟨g2, _⟩ | ⟨_, g2⟩
    · rw [t] at g2; cases g2
    · exact ⟨a, e1, g2⟩
end
section
variable {X : Cx} {Wx : WX} {p pos : Pos} {e : Expr} {es : List Expr} {ml : Ma (List D)}
theorem l_sum : ArL X.K Wx (relV X.K) (rSum X.K) (one fSum) := fun σ W H e μ ds vs Q r h p => by
  obtain ⟨d, v, rfl, rfl, h1, p⟩ := one_ok h p
  unfold fSum at p
  cases t : d.isTup with
  | true => rw [t] at p; exact p.elim
  | false =>
    cases z : (seqE e μ d).bind intsD with
    | none => rw [t, z] at p; exact p.elim
    | some ns =>
      rw [t, z] at p
      obtain ⟨a, e1, g⟩ := ints_of r h1 t z
      exact ⟨a, ns, by rw [e1], g, Post.ok p r (RP.of rfl)⟩
theorem l_max : ArL X.K Wx (relV X.K) (rMax X.K) (one fMax) := fun σ W H e μ ds vs Q r h p => by
  obtain ⟨d, v, rfl, rfl, h1, p⟩ := one_ok h p
  unfold fMax at p
  cases t : d.isTup with
  | true => rw [t] at p; exact p.elim
  | false =>
    cases z : (seqE e μ d).bind intsD with
    | none => rw [t, z] at p; exact p.elim
    | some ns =>
      cases ns with
      | nil => rw [t, z] at p; exact p.elim
      | cons n ms =>
        rw [t, z] at p
        obtain ⟨a, e1, g⟩ := ints_of r h1 t z
        obtain ⟨m1, m2⟩ := maxI_ok n ms
        refine ⟨a, n :: ms, by rw [e1], g, Nat.succ_pos _, fun m h1 h2 => ?_⟩
        have e2 : m = maxI n ms := Int.le_antisymm (m2 m h1) (h2 _ m1)
        rw [e2]
        exact Post.ok p r (RP.of rfl)
theorem l_min : ArL X.K Wx (relV X.K) (rMin X.K) (one fMin) := fun σ W H e μ ds vs Q r h p => by
  obtain ⟨d, v, rfl, rfl, h1, p⟩ := one_ok h p
  unfold fMin at p
  cases t : d.isTup with
  | true => rw [t] at p; exact p.elim
  | false =>
    cases z : (seqE e μ d).bind intsD with
    | none => rw [t, z] at p; exact p.elim
    | some ns =>
      cases ns with
      | nil => rw [t, z] at p; exact p.elim
      | cons n ms =>
        rw [t, z] at p
        obtain ⟨a, e1, g⟩ := ints_of r h1 t z
        obtain ⟨m1, m2⟩ := minI_ok n ms
        refine ⟨a, n :: ms, by rw [e1], g, Nat.succ_pos _, fun m h1 h2 => ?_⟩
        have e2 : m = minI n ms := Int.le_antisymm (h2 _ m1) (m2 m h1)
        rw [e2]
        exact Post.ok p r (RP.of rfl)
theorem l_all : ArL X.K Wx (relV X.K) (rAll X.K) (one fAll) := fun σ W H e μ ds vs Q r h p => by
  obtain ⟨d, v, rfl, rfl, h1, p⟩ := one_ok h p
  unfold fAll at p
  cases t : d.isTup with
  | true => rw [t] at p; exact p.elim
  | false =>
    cases z : (seqE e μ d).bind blsD with
    | none => rw [t, z] at p; exact p.elim
    | some ns =>
      rw [t, z] at p
      obtain ⟨a, e1, g⟩ := bls_of r h1 t z
      exact ⟨a, ns, by rw [e1], g, Post.ok p r (RP.of rfl)⟩
theorem l_any : ArL X.K Wx (relV X.K) (rAny X.K) (one fAny) := fun σ W H e μ ds vs Q r h p => by
  obtain ⟨d, v, rfl, rfl, h1, p⟩ := one_ok h p
  unfold fAny at p
  cases t : d.isTup with
  | true => rw [t] at p; exact p.elim
  | false =>
    cases z : (seqE e μ d).bind blsD with
    | none => rw [t, z] at p; exact p.elim
    | some ns =>
      rw [t, z] at p
      obtain ⟨a, e1, g⟩ := bls_of r h1 t z
      exact ⟨a, ns, by rw [e1], g, Post.ok p r (RP.of rfl)⟩
theorem ee_sum (hc : X.calm = true) (hg : Gl X "sum") (hm : X.mg "sum" = none) (ha : EA X Wx [e] ml) (he : starEach [e] X.env = (false, eval e X.env) :: starEach [] X.env := by rfl) : EE X Wx (.Call (.Name "sum" p) [e] [] pos) (mBind ml (one fSum)) :=
  ep_callB (cr_sum hc) l_sum hg hm (by decide +kernel) ha (by decide) (by decide) he rfl
theorem ee_max (hc : X.calm = true) (hg : Gl X "max") (hm : X.mg "max" = none) (ha : EA X Wx [e] ml) (he : starEach [e] X.env = (false, eval e X.env) :: starEach [] X.env := by rfl) : EE X Wx (.Call (.Name "max" p) [e] [] pos) (mBind ml (one fMax)) :=
  ep_callB (cr_max hc) l_max hg hm (by decide +kernel) ha (by decide) (by decide) he rfl
theorem ee_min (hc : X.calm = true) (hg : Gl X "min") (hm : X.mg "min" = none) (ha : EA X Wx [e] ml) (he : starEach [e] X.env = (false, eval e X.env) :: starEach [] X.env := by rfl) : EE X Wx (.Call (.Name "min" p) [e] [] pos) (mBind ml (one fMin)) :=
  ep_callB (cr_min hc) l_min hg hm (by decide +kernel) ha (by decide) (by decide) he rfl
theorem ee_all (hc : X.calm = true) (hg : Gl X "all") (hm : X.mg "all" = none) (ha : EA X Wx [e] ml) (he : starEach [e] X.env = (false, eval e X.env) :: starEach [] X.env := by rfl) : EE X Wx (.Call (.Name "all" p) [e] [] pos) (mBind ml (one fAll)) :=
  ep_callB (cr_all hc) l_all hg hm (by decide +kernel) ha (by decide) (by decide) he rfl
theorem ee_any (hc : X.calm = true) (hg : Gl X "any") (hm : X.mg "any" = none) (ha : EA X Wx [e] ml) (he : starEach [e] X.env = (false, eval e X.env) :: starEach [] X.env := by rfl) : EE X Wx (.Call (.Name "any" p) [e] [] pos) (mBind ml (one fAny)) :=
  ep_callB (cr_any hc) l_any hg hm (by decide +kernel) ha (by decide) (by decide) he rfl
end
def fAbs (d : D) : ME := fun e μ => match d with
  | .int i => .ok (.int (if i < 0 then -i else i)) e μ
  | _ => .bad
def fIntO (d : D) : ME := fun e μ => match d with
  | .int i => .ok (.int i) e μ
  | .bl k => .ok (.int (if k then 1 else 0)) e μ
  | _ => .bad
def fDivmod (a b : D) : ME := fun e μ => match a, b with
  | .int i, .int j => (match decide (0 < j) && szD j with
    | true => .ok (.ktp [.int (i / j), .int (i % j)]) e μ
    | false => .bad)
  | _, _ => .bad
def fGcd (a b : D) : ME := fun e μ => match a, b with
  | .int i, .int j => .ok (.int ((Nat.gcd i.natAbs j.natAbs : Nat) : Int)) e μ
  | _, _ => .bad
def fMax2 (a b : D) : ME := fun e μ => match a, b with
  | .int i, .int j => .ok (.int (if j > i then j else i)) e μ
  | _, _ => .bad
def fMin2 (a b : D) : ME := fun e μ => match a, b with
  | .int i, .int j => .ok (.int (if j < i then j else i)) e μ
  | _, _ => .bad
def fStrI (d : D) : ME := fun e μ => match d with
  | .int i => (match decide (i.natAbs.log2 < 1920) with
    | true => .ok (.str (toString i)) e μ
    | false => .bad)
  | _ => .bad
section
variable {X : Cx} {Wx : WX} {p pos : Pos} {e e2 : Expr} {es : List Expr} {ml : Ma (List D)}
theorem l_abs : ArL X.K Wx (relV X.K) (fun xs H Q => ∃ i, xs = [.int i] ∧ Q (.int (if i < 0 then -i else i)) H) (one fAbs) := fun σ W H e μ ds vs Q r h p => by
  obtain ⟨d, v, rfl, rfl, h1, p⟩ := one_ok h p
  cases d with
  | int i => exact ⟨i, by rw [show v = V.int i from h1], Post.ok p r (RP.of rfl)⟩
  | _ => exact p.elim
theorem l_intO : ArL X.K Wx (relV X.K) (fun xs H Q => (∃ i, xs = [.int i] ∧ Q (.int i) H) ∨ ∃ k, xs = [.bl k] ∧ Q (.int (if k then 1 else 0)) H) (one fIntO) := fun σ W H e μ ds vs Q r h p => by
  obtain ⟨d, v, rfl, rfl, h1, p⟩ := one_ok h p
  cases d with
  | int i => exact .inl ⟨i, by rw [show v = V.int i from h1], Post.ok p r (RP.of rfl)⟩
  | bl i => exact .inr ⟨i, by rw [show v = V.bl i from h1], Post.ok p r (RP.of rfl)⟩
  | _ => exact p.elim
theorem l_strI : ArL X.K Wx (relV X.K) (fun xs H Q => ∃ i, xs = [.int i] ∧ i.natAbs.log2 < 1920 ∧ Q (.str (toString i)) H) (one fStrI) := fun σ W H e μ ds vs Q r h p => by
  obtain ⟨d, v, rfl, rfl, h1, p⟩ := one_ok h p
  cases d with
  | int i =>
    have p' : Post X.K Wx (relV X.K) W H σ (match decide (i.natAbs.log2 < 1920) with
      | true => (.ok (.str (toString i)) e μ : Rs D)
      | false => .bad) Q := p
    cases c : decide (i.natAbs.log2 < 1920) with
    | false => rw [c] at p'; exact p'.elim
    | true =>
      rw [c] at p'
      exact ⟨i, by rw [show v = V.int i from h1], of_decide_eq_true c, Post.ok p' r (RP.of rfl)⟩
  | _ => exact p.elim
theorem l_divmod : ArL X.K Wx (relV X.K) (fun xs H Q => ∃ i j, xs = [.int i, .int j] ∧ CDiv i j ∧ ∀ p, H p = none → Q (.ref p) (upd H p (.tup [.int (i / j), .int (i % j)]))) (two fDivmod) := fun σ W H e μ ds vs Q r h p => by
  obtain ⟨d, d', v, v', rfl, h1, h2, p⟩ := two_ok h p
  cases d with
  | int i =>
    cases d' with
    | int j =>
      have p' : Post X.K Wx (relV X.K) W H σ (match decide (0 < j) && szD j with
        | true => (.ok (.ktp [.int (i / j), .int (i % j)]) e μ : Rs D)
        | false => .bad) Q := p
      cases c : decide (0 < j) && szD j with
      | false => rw [c] at p'; exact p'.elim
      | true =>
        rw [c] at p'
        obtain ⟨c1, c2⟩ := Bool.and_eq_true_iff.mp c
        exact ⟨i, j, by rw [show v = V.int i from h1, show v' = V.int j from h2], ⟨of_decide_eq_true c1, szD_ok c2⟩, new_ktp (ds := [.int (i / j), .int (i % j)]) (vs := [.int (i / j), .int (i % j)]) r ⟨_, _, rfl, rfl, _, _, rfl, rfl, rfl⟩ p'⟩
    | _ => exact p.elim
  | _ => exact p.elim
theorem l_gcd : ArL X.K Wx (relV X.K) rGcd (two fGcd) := fun σ W H e μ ds vs Q r h p => by
  obtain ⟨d, d', v, v', rfl, h1, h2, p⟩ := two_ok h p
  cases d with
  | int i =>
    cases d' with
    | int j => exact ⟨i, j, by rw [show v = V.int i from h1, show v' = V.int j from h2], Post.ok p r (RP.of rfl)⟩
    | _ => exact p.elim
  | _ => exact p.elim
theorem l_max2 : ArL X.K Wx (relV X.K) (fun xs H Q => ∃ i j, xs = [.int i, .int j] ∧ Q (.int (if j > i then j else i)) H) (two fMax2) := fun σ W H e μ ds vs Q r h p => by
  obtain ⟨d, d', v, v', rfl, h1, h2, p⟩ := two_ok h p
  cases d with
  | int i =>
    cases d' with
    | int j => exact ⟨i, j, by rw [show v = V.int i from h1, show v' = V.int j from h2], Post.ok p r (RP.of rfl)⟩
    | _ => exact p.elim
  | _ => exact p.elim
theorem l_min2 : ArL X.K Wx (relV X.K) (fun xs H Q => ∃ i j, xs = [.int i, .int j] ∧ Q (.int (if j < i then j else i)) H) (two fMin2) := fun σ W H e μ ds vs Q r h p => by
  obtain ⟨d, d', v, v', rfl, h1, h2, p⟩ := two_ok h p
  cases d with
  | int i =>
    cases d' with
    | int j => exact ⟨i, j, by rw [show v = V.int i from h1, show v' = V.int j from h2], Post.ok p r (RP.of rfl)⟩
    | _ => exact p.elim
  | _ => exact p.elim
theorem ee_abs (hg : Gl X "abs") (hm : X.mg "abs" = none) (ha : EA X Wx [e] ml) (he : starEach [e] X.env = (false, eval e X.env) :: starEach [] X.env := by rfl) : EE X Wx (.Call (.Name "abs" p) [e] [] pos) (mBind ml (one fAbs)) :=
  ep_callB call_abs l_abs hg hm (by decide +kernel) ha (by decide) (by decide) he rfl
theorem ee_intO (hg : Gl X "int") (hm : X.mg "int" = none) (ha : EA X Wx [e] ml) (he : starEach [e] X.env = (false, eval e X.env) :: starEach [] X.env := by rfl) : EE X Wx (.Call (.Name "int" p) [e] [] pos) (mBind ml (one fIntO)) :=
  ep_callTy call_int1 l_intO hg hm (by decide +kernel) ha (by decide) (by decide) he rfl
theorem ee_strI (hg : Gl X "str") (hm : X.mg "str" = none) (ha : EA X Wx [e] ml) (he : starEach [e] X.env = (false, eval e X.env) :: starEach [] X.env := by rfl) : EE X Wx (.Call (.Name "str" p) [e] [] pos) (mBind ml (one fStrI)) :=
  ep_callTy call_str_int l_strI hg hm (by decide +kernel) ha (by decide) (by decide) he rfl
theorem ee_divmod (hg : Gl X "divmod") (hm : X.mg "divmod" = none) (ha : EA X Wx [e, e2] ml) (he : starEach [e, e2] X.env = (false, eval e X.env) :: starEach [e2] X.env := by rfl) (hpl : (backTo pos (starEach [e2] X.env)).any (·.1) = false := by rfl) : EE X Wx (.Call (.Name "divmod" p) [e, e2] [] pos) (mBind ml (two fDivmod)) :=
  ep_callB call_divmod l_divmod hg hm (by decide +kernel) ha (by decide) (by decide) he hpl
theorem ee_max2 (hc : X.calm = true) (hg : Gl X "max") (hm : X.mg "max" = none) (ha : EA X Wx [e, e2] ml) (he : starEach [e, e2] X.env = (false, eval e X.env) :: starEach [e2] X.env := by rfl) (hpl : (backTo pos (starEach [e2] X.env)).any (·.1) = false := by rfl) : EE X Wx (.Call (.Name "max" p) [e, e2] [] pos) (mBind ml (two fMax2)) :=
  ep_callB (call_max2 hc) l_max2 hg hm (by decide +kernel) ha (by decide) (by decide) he hpl
theorem ee_min2 (hc : X.calm = true) (hg : Gl X "min") (hm : X.mg "min" = none) (ha : EA X Wx [e, e2] ml) (he : starEach [e, e2] X.env = (false, eval e X.env) :: starEach [e2] X.env := by rfl) (hpl : (backTo pos (starEach [e2] X.env)).any (·.1) = false := by rfl) : EE X Wx (.Call (.Name "min" p) [e, e2] [] pos) (mBind ml (two fMin2)) :=
  ep_callB (call_min2 hc) l_min2 hg hm (by decide +kernel) ha (by decide) (by decide) he hpl
theorem ee_gcd (hg : Gl X "gcd") (hm : X.mg "gcd" = some (.builtin "math.gcd")) (ha : EA X Wx [e, e2] ml) (he : starEach [e, e2] X.env = (false, eval e X.env) :: starEach [e2] X.env := by rfl) (hpl : (backTo pos (starEach [e2] X.env)).any (·.1) = false := by rfl) : EE X Wx (.Call (.Name "gcd" p) [e, e2] [] pos) (mBind ml (two fGcd)) :=
  PE.weak (pe_callBfun cr_gcd hg hm ha (by decide) he hpl) fun σ H Q q => TR.one q fun W H e μ ds vs r z p => l_gcd σ W H e μ ds vs Q r z p
end

/-! ### isinstance of a built-in class -/
def isiK (a b : Tk) : Bool := decide (a = b) || (match a, b with
  | .bl, .int => true
  | _, _ => false)
theorem isiK_ok (a b : Tk) : kitB a.name b.name = some (isiK a b) := by
  cases a <;> cases b <;> decide +kernel
def tyE (e : En) (μ : Mu) (d : D) : Option Tk := match d with
  | .non => some .non
  | .bl _ => some .bl
  | .int _ => some .int
  | .str _ => some .str
  | .tup _ => some .tup
  | .ktp _ => some .tup
  | d => (match lstX e μ d with
    | some _ => some .lst
    | none => none)
def fIsi (a b : D) : ME := fun e μ => match b, tyE e μ a with
  | .ty t, some u => .ok (.bl (isiK u t)) e μ
  | _, _ => .bad
theorem tyE_ok {K : PySem.W.Frag} {W : Wd} {H : Hp} {e : En} {σ : St} {μ : Mu} (r : Rel K W H e σ μ) {d : D} {v : V} {t : Tk} (h : RP K σ W H d v) (q : tyE e μ d = some t) : TyX K H v (.type t.name) := by
  have key : (match lstX e μ d with | some _ => some Tk.lst | none => none) = some t → TyX K H v (.type t.name) := fun q => by
    cases z : lstX e μ d with
    | none => rw [z] at q; cases q
    | some xs =>
      rw [z] at q
      cases q
      obtain ⟨a, vs, rfl, g, _⟩ := lstX_ok r h z
      exact .base (.lst g)
  cases d with
  | non => cases q; rw [show v = V.non from h]; exact .base .non
  | bl b => cases q; rw [show v = V.bl b from h]; exact .base (.bl b)
  | int b => cases q; rw [show v = V.int b from h]; exact .base (.int b)
  | str b => cases q; rw [show v = V.str b from h]; exact .base (.str b)
  | tup xs =>
    cases q
    obtain ⟨a, vs, rfl, ⟨ob, g, _⟩, _⟩ := h
    exact .fTuple g
  | ktp xs =>
    cases q
    obtain ⟨a, vs, rfl, g, _⟩ := h
    rcases TupE.sq (K := K) (H := H) (.inr g) with (g | ⟨o, g⟩) | ⟨o, its, n, g1, g2, _⟩
    · exact .base (.tup g)
    · exact .fTuple g
    · exact .kTuple g1 g2
  | _ => exact key q
section
variable {X : Cx} {Wx : WX} {p pos p' : Pos} {e : Expr} {x : Str} {m : ME} {t : Tk}
theorem ee_ty (hg : Gl X x) (hm : X.mg x = none) (hv : bootBuiltins x = some (.type t.name)) (hn : x ≠ "__name__" := by decide) (hd : (x == ("__debug__" : Str)) = false := by decide) : EE X Wx (.Name x pos) (mC (.ty t)) := ee_c (v := .ty t.name) (pe_bltn hg hm hv rfl hn hd) fun _ _ => rfl
theorem l_isi : ArL X.K Wx (relV X.K) (rIsi X.K) (two fIsi) := fun σ W H e μ ds vs Q r h p => by
  obtain ⟨d, d', v, v', rfl, h1, h2, p⟩ := two_ok h p
  cases d' with
  | ty t =>
    have p' : Post X.K Wx (relV X.K) W H σ (match tyE e μ d with
      | some u => (.ok (.bl (isiK u t)) e μ : Rs D)
      | none => .bad) Q := by
        unfold fIsi at p
        cases z : tyE e μ d with
        | none => rw [z] at p; exact p.elim
        | some u => rw [z] at p; exact p
    cases z : tyE e μ d with
    | none => rw [z] at p'; exact p'.elim
    | some u =>
      rw [z] at p'
      rw [show v' = V.ty t.name from h2]
      exact ⟨v, .ty t.name, _, _, isiK u t, rfl, .ty _, tyE_ok r h1 z, kit_ty (isiK_ok u t), Post.ok p' r (RP.of rfl)⟩
  | _ => cases tyE e μ d <;> exact p.elim
variable {ml : Ma (List D)} {e2 : Expr}
theorem ee_isi (hg : Gl X "isinstance") (hm : X.mg "isinstance" = none) (ha : EA X Wx [e, e2] ml) (he : starEach [e, e2] X.env = (false, eval e X.env) :: starEach [e2] X.env := by rfl) (hpl : (backTo pos (starEach [e2] X.env)).any (·.1) = false := by rfl) : EE X Wx (.Call (.Name "isinstance" p) [e, e2] [] pos) (mBind ml (two fIsi)) :=
  ep_callB call_isi l_isi hg hm (by decide +kernel) ha (by decide) (by decide) he hpl
end

/-! ### an object is changed -/
def putE (e : En) (d : D) (o : O) : En := match d with
  | .loc i => e.set i (.own o)
  | _ => e
def putM (μ : Mu) (d : D) (o : O) : Mu := match d with
  | .ref n => μ.set n o
  | _ => μ
/-- the object that may be changed -/
def contW (e : En) (μ : Mu) (d : D) : Option O := match d with
  | .ref n => μ[n]?
  | .loc i => (match e[i]? with
    | some (.own o) => some o
    | _ => none)
  | _ => none
section
variable {K : PySem.W.Frag} {W : Wd} {H : Hp} {e : En} {σ : St} {μ : Mu} {a : Addr} {ho : HO}
theorem contW_ok (r : Rel K W H e σ μ) {d : D} {v : V} {o : O} (h : RP K σ W H d v) (q : contW e μ d = some o) : ∃ a, v = .ref a ∧ RO K W H o a ∧ ¬ W.F a ∧ ¬ W.G a := by
  cases d with
  | ref n =>
    obtain ⟨a, e1, h1⟩ := h
    exact ⟨a, e1, r.st.obj n o a q h1, r.st.nF a (List.mem_of_getElem? h1)⟩
  | loc i =>
    have q' : (match e[i]? with | some (.own o) => some o | _ => none) = some o := q
    cases z : e[i]? with
    | none => rw [z] at q'; cases q'
    | some l =>
      rw [z] at q'
      cases l with
      | own o' =>
        cases q'
        obtain ⟨a, h1, h2, h3, h4, _⟩ := r.own i _ z
        have h' : σ[i]? = some (some v) := h
        rw [h1] at h'
        exact ⟨a, by cases h'; rfl, h2, h3, h4⟩
      | _ => cases q'
  | _ => cases q
/-- no tuple, no locked thing -/
def NoTup : Option HO → Prop
  | some (.tup _) => False
  | some (.frz _ _) => False
  | _ => True
theorem RO.noTup {o : O} (h : RO K W H o a) : NoTup (H a) := by
  cases o with
  | lst xs =>
    obtain ⟨vs, h1, _⟩ := h
    rw [h1]; trivial
  | dic t ks ds =>
    obtain ⟨vs, hm, _⟩ := h
    cases z : H a with
    | none => trivial
    | some o =>
      rw [z] at hm
      cases o <;> first | trivial | exact hm.elim
  | ins C fs =>
    obtain ⟨dx, fv, h1, _⟩ := h
    rw [h1]; trivial
theorem Ext.write (hF : ¬ W.F a) (hG : ¬ W.G a) (hn : NoTup (H a)) : Ext W H W (upd H a ho) := by
  refine ⟨⟨[], by simp⟩, fun _ h => h, fun _ => Iff.rfl, fun b u hb _ h => ?_, fun b vs hb h => ?_, fun b hb => ?_, fun b vs h => ?_, fun b o u h => ?_, fun b φ hb h => ?_⟩
  · have nb : b ≠ a := fun z => hF (z ▸ hb)
    unfold Rd
    rw [upd_ne nb]
    exact h
  · have nb : b ≠ a := fun z => hF (z ▸ hb)
    rw [upd_ne nb]
    exact h
  · exact upd_ne fun z => hG (z ▸ hb)
  · have nb : b ≠ a := by
      rintro rfl
      rw [h] at hn
      exact hn
    rw [upd_ne nb]
    exact h
  · have nb : b ≠ a := by
      rintro rfl
      rw [h] at hn
      exact hn
    rw [upd_ne nb]
    exact h
  · have nb : b ≠ a := fun z => hF (z ▸ hb)
    rw [upd_ne nb]
    exact h
theorem Rel.write {d : D} {o o' : O} (r : Rel K W H e σ μ) (h : RP K σ W H d (.ref a)) (q : contW e μ d = some o) (new : RO K W (upd H a ho) o' a) : Rel K W (upd H a ho) (putE e d o') σ (putM μ d o') := by
  obtain ⟨a', ea, h1, hF, hG⟩ := contW_ok r h q
  cases ea
  have x : Ext W H W (upd H a ho) := Ext.write hF hG h1.noTup
  cases d with
  | ref n =>
    obtain ⟨a', ea, hn⟩ := h
    cases ea
    refine ⟨⟨by rw [show putM μ (.ref n) o' = μ.set n o' from rfl, List.length_set]; exact r.st.len, fun m u b h2 h3 => ?_, r.st.nF, r.st.nd, r.st.fg, fun b hb => ?_⟩, r.len, fun i d hi => ?_, fun i u hi => ?_, r.apart⟩
    · rcases get_set (show (μ.set n o')[m]? = some u from h2) with ⟨rfl, eu⟩ | ⟨ne, h2⟩
      · rw [hn] at h3
        cases h3
        rw [eu]
        exact new
      · have nb : b ≠ a := by
          rintro rfl
          obtain ⟨l1, e1⟩ := List.getElem?_eq_some_iff.mp hn
          obtain ⟨l2, e2⟩ := List.getElem?_eq_some_iff.mp h3
          exact ne ((List.getElem_inj r.st.nd).mp (e1.trans e2.symm))
        exact (r.st.obj m u b h2 h3).ext x (upd_ne nb)
    · have nb : b ≠ a := by
        rintro rfl
        exact hb.elim hF hG
      rw [upd_ne nb]
      exact r.st.tr b hb
    · obtain ⟨v, g1, g2⟩ := r.val i d hi
      exact ⟨v, g1, RV.ext x _ _ g2⟩
    · obtain ⟨b, g1, g2, g3, g4, g5⟩ := r.own i u hi
      have nb : b ≠ a := fun z => g5 (z ▸ List.mem_of_getElem? hn)
      exact ⟨b, g1, g2.ext x (upd_ne nb), g3, g4, g5⟩
  | loc i =>
    have hi : σ[i]? = some (some (.ref a)) := h
    have q' : (match e[i]? with | some (.own o) => some o | _ => none) = some o := q
    obtain ⟨o1, z⟩ : ∃ o1, e[i]? = some (.own o1) := by
      cases z : e[i]? with
      | none => rw [z] at q'; cases q'
      | some l =>
        rw [z] at q'
        cases l with
        | own o1 => exact ⟨o1, rfl⟩
        | _ => cases q'
    obtain ⟨a2, i1, i2, i3, i4, i5⟩ := r.own i o1 z
    rw [hi] at i1
    cases i1
    have isO : ∀ j, isOwn (e.set i (.own o')) j → isOwn e j := fun j ⟨u, hj⟩ => by
      rcases get_set hj with ⟨rfl, _⟩ | ⟨_, hj⟩
      · exact ⟨o1, z⟩
      · exact ⟨u, hj⟩
    refine ⟨⟨r.st.len, fun m u b h2 h3 => ?_, r.st.nF, r.st.nd, r.st.fg, fun b hb => ?_⟩, by rw [show putE e (.loc i) o' = e.set i (.own o') from rfl, List.length_set]; exact r.len, fun j d hj => ?_, fun j u hj => ?_, fun j k b hj hk => r.apart j k b (isO j hj) (isO k hk)⟩
    · have nb : b ≠ a := fun zz => i5 (zz ▸ List.mem_of_getElem? h3)
      exact (r.st.obj m u b h2 h3).ext x (upd_ne nb)
    · have nb : b ≠ a := by
        rintro rfl
        exact hb.elim hF hG
      rw [upd_ne nb]
      exact r.st.tr b hb
    · rcases get_set (show (e.set i (.own o'))[j]? = _ from hj) with ⟨_, e1⟩ | ⟨_, hj⟩
      · cases e1
      · obtain ⟨v, g1, g2⟩ := r.val j d hj
        exact ⟨v, g1, RV.ext x _ _ g2⟩
    · rcases get_set (show (e.set i (.own o'))[j]? = _ from hj) with ⟨rfl, e1⟩ | ⟨ne, hj⟩
      · cases e1
        exact ⟨a, hi, new, i3, i4, i5⟩
      · obtain ⟨b, g1, g2, g3, g4, g5⟩ := r.own j u hj
        have nb : b ≠ a := by
          rintro rfl
          exact ne (r.apart i j b ⟨o1, z⟩ ⟨u, hj⟩ hi g1)
        exact ⟨b, g1, g2.ext x (upd_ne nb), g3, g4, g5⟩
  | _ => cases q
end

/-! ### methods of lists -/
/-- recv.m(args): recv a list -/
def mMeth (a : ME) (ml : Ma (List D)) (f : D → List D → ME) : ME := mBind a fun x e μ => match contE e μ x with
  | some (.lst _) => mBind ml (fun ds => f x ds) e μ
  | _ => .bad
def fAppend (x : D) (ds : List D) : ME := fun e μ => match ds, contW e μ x with
  | [d], some (.lst xs) => (match d.plain && lineB (xs.length + 1) with
    | true => .ok .non (putE e x (.lst (xs ++ [d]))) (putM μ x (.lst (xs ++ [d])))
    | false => .bad)
  | _, _ => .bad
def fPop (x : D) (ds : List D) : ME := fun e μ => match ds, contW e μ x with
  | [], some (.lst xs) => (match xs[xs.length - 1]? with
    | some d => .ok d (putE e x (.lst xs.dropLast)) (putM μ x (.lst xs.dropLast))
    | none => .bad)
  | [.int i], some (.lst xs) => (match szB i, seqIndex? i xs.length with
    | true, some k => (match xs[k]? with
      | some d => .ok d (putE e x (.lst (xs.eraseIdx k))) (putM μ x (.lst (xs.eraseIdx k)))
      | none => .bad)
    | _, _ => .bad)
  | _, _ => .bad
def fExtend (x : D) (ds : List D) : ME := fun e μ => match ds, contW e μ x with
  | [d], some (.lst xs) => (match lstX e μ d with
    | some ys => (match lineB (xs.length + ys.length) with
      | true => .ok .non (putE e x (.lst (xs ++ ys))) (putM μ x (.lst (xs ++ ys)))
      | false => .bad)
    | none => .bad)
  | _, _ => .bad
section
variable {X : Cx} {Wx : WX} {o e : Expr} {es : List Expr} {m : ME} {ml : Ma (List D)} {name : Str} {apos cpos : Pos} {id : String} {r : V → List V → Hp → VK → Prop} {f : D → List D → ME}
def MtL (K : PySem.W.Frag) (Wx : WX) (r : V → List V → Hp → VK → Prop) (f : D → List D → ME) : Prop :=
  ∀ σ W H e μ d ds v vs Q, Rel K W H e σ μ → RP K σ W H d v → RPs K σ W H ds vs → Post K Wx (relV K) W H σ (f d ds e μ) Q → r v vs H Q
theorem ee_lm (slot : Slot "list" name id) (hty : typeOf (.builtin id) = pure (.type "method_descriptor")) (hm : MtR X id r) (l : MtL X.K Wx r f) (ho : EE X Wx o m) (ha : EA X Wx (e :: es) ml)
    (hbase : attributeBase o name X.env (eval o X.env) = eval o X.env := by rfl)
    (hfew : ((backTo cpos (starEach (e :: es) X.env)).all (fun x => !x.1) && (backToKw cpos (keywordEach [] X.env)).all (fun x => x.1.isSome)
      && decide ((e :: es).length + ([] : List Keyword).length + (if ([] : List Keyword).isEmpty then 0 else 1) < 30)) = true := by rfl)
    (hline : (apos.endLine == cpos.line) = true := by rfl) (hs : starEach (e :: es) X.env = (false, eval e X.env) :: starEach es X.env := by rfl) (hplain : (backTo cpos (starEach es X.env)).any (·.1) = false := by rfl) :
    EE X Wx (.Call (.Attribute o name apos) (e :: es) [] cpos) (mMeth m ml f) := PE.weak (pe_bm PySem.F.plainAttrs_list slot hty hm ho ha hbase hfew hline hs hplain) fun σ H Q q =>
  TR.one q fun W H1 e1 μ1 d v rl z p => by
    cases c : contE e1 μ1 d with
    | none => rw [c] at p; exact p.elim
    | some u =>
      rw [c] at p
      cases u with
      | lst xs =>
        obtain ⟨a, rfl, vs, g1, _⟩ := cont_ok rl z c
        refine ⟨.inl ⟨rfl, vs, .inl g1⟩, W, e1, μ1, rl, (Post.bind p).mono fun ws H2 ⟨W2, ds, e2, μ2, r2, z2, x2, p2⟩ => ?_⟩
        exact l σ W2 H2 e2 μ2 d ds _ ws Q r2 (RP.ext x2 z) z2 p2
      | _ => exact p.elim
theorem ee_lm0 (slot : Slot "list" name id) (hty : typeOf (.builtin id) = pure (.type "method_descriptor")) (hm : MtR X id r) (l : MtL X.K Wx r f) (ho : EE X Wx o m)
    (hbase : attributeBase o name X.env (eval o X.env) = eval o X.env := by rfl) (hline : (apos.endLine == cpos.line) = true := by rfl) : EE X Wx (.Call (.Attribute o name apos) [] [] cpos) (mMeth m aNil f) :=
  PE.weak (pe_bm0 PySem.F.plainAttrs_list slot hty hm ho hbase hline) fun σ H Q q => TR.one q fun W H1 e1 μ1 d v rl z p => by
    cases c : contE e1 μ1 d with
    | none => rw [c] at p; exact p.elim
    | some u =>
      rw [c] at p
      cases u with
      | lst xs =>
        obtain ⟨a, rfl, vs, g1, _⟩ := cont_ok rl z c
        exact ⟨.inl ⟨rfl, vs, .inl g1⟩, l σ W H1 e1 μ1 d [] _ [] Q rl z rfl p⟩
      | _ => exact p.elim
theorem l_append : MtL X.K Wx rAppend fAppend := fun σ W H e μ x ds v vs Q r h1 h2 p => by
  match ds, h2, p with
  | [d], h2, p =>
    cases c : contW e μ x with
    | none => simp only [fAppend, c] at p; exact p.elim
    | some u =>
      cases u with
      | lst xs =>
        simp only [fAppend, c] at p
        cases c2 : d.plain && lineB (xs.length + 1) with
        | false => simp only [c2] at p; exact p.elim
        | true =>
          simp only [c2] at p
          obtain ⟨c3, c4⟩ := Bool.and_eq_true_iff.mp c2
          obtain ⟨a, rfl, ⟨ws, g1, g2⟩, hF, hG⟩ := contW_ok r h1 c
          obtain ⟨y, r', ev, h3, h4⟩ := h2
          rw [show r' = [] from h4] at ev
          subst ev
          have x1 : Ext W H W (upd H a (.lst (ws ++ [y]))) := Ext.write hF hG (by rw [g1]; trivial)
          refine ⟨a, ws, y, rfl, rfl, g1, ?_, ?_⟩
          · have := lineB_ok c4
            have hl := RVs.length g2
            omega
          · exact p W _ _ x1 (r.write h1 c ⟨_, upd_same, RVs.ext x1 _ _ (RVs.append g2 ⟨y, [], rfl, h3.val c3, rfl⟩)⟩) (RP.of rfl)
      | _ => simp only [fAppend, c] at p; exact p.elim
  | [], _, p => exact p.elim
  | _ :: _ :: _, _, p => exact p.elim
theorem RVs.dropLast {K : PySem.W.Frag} {W : Wd} {H : Hp} {ds : List D} {vs : List V} (h : RVs K W H ds vs) : RVs K W H ds.dropLast vs.dropLast := by
  rw [List.dropLast_eq_take, List.dropLast_eq_take, RVs.length h]
  exact RVs.take _ h
theorem RVs.erase {K : PySem.W.Frag} {W : Wd} {H : Hp} : ∀ {ds : List D} {vs : List V} (k : Nat), RVs K W H ds vs → RVs K W H (ds.eraseIdx k) (vs.eraseIdx k)
  | [], _, k, h => by
    rw [show _ = [] from h]
    simp [RVs]
  | _ :: _, _, 0, ⟨v, r, e, h1, h2⟩ => by
    subst e
    exact h2
  | _ :: _, _, k + 1, ⟨v, r, e, h1, h2⟩ => by
    subst e
    exact ⟨v, _, rfl, h1, RVs.erase k h2⟩
def rPopA : V → List V → Hp → VK → Prop := fun x xs H Q => rPop x xs H Q ∨ rPopAt x xs H Q
theorem mt_popA : MtR X "list.pop" rPopA := MtR.or mt_pop mt_popAt
theorem l_pop : MtL X.K Wx rPopA fPop := fun σ W H e μ x ds v vs Q r h1 h2 p => by
  cases c : contW e μ x with
  | none =>
    simp only [fPop, c] at p
    exact p.elim
  | some u =>
    cases u with
    | lst xs =>
      obtain ⟨a, rfl, ⟨ws, g1, g2⟩, hF, hG⟩ := contW_ok r h1 c
      match ds, h2, p with
      | [], h2, p =>
        simp only [fPop, c] at p
        cases c2 : xs[xs.length - 1]? with
        | none => simp only [c2] at p; exact p.elim
        | some d =>
          simp only [c2] at p
          have x1 : Ext W H W (upd H a (.lst ws.dropLast)) := Ext.write hF hG (by rw [g1]; trivial)
          obtain ⟨y, k1, k2⟩ := RVs.get g2 c2
          rw [show vs = [] from h2]
          rw [← RVs.length g2] at k1
          exact .inl ⟨a, ws, y, rfl, rfl, g1, k1, p W _ _ x1 (r.write h1 c ⟨_, upd_same, RVs.ext x1 _ _ (RVs.dropLast g2)⟩) (RP.of (RV.ext x1 _ _ k2))⟩
      | [.int i], h2, p =>
        simp only [fPop, c] at p
        cases c2 : szB i with
        | false => simp only [c2] at p; exact p.elim
        | true =>
          cases c3 : seqIndex? i xs.length with
          | none => simp only [c2, c3] at p; exact p.elim
          | some k =>
            simp only [c2, c3] at p
            cases c4 : xs[k]? with
            | none => simp only [c4] at p; exact p.elim
            | some d =>
              simp only [c4] at p
              have c5 := szB_ok c2
              have x1 : Ext W H W (upd H a (.lst (ws.eraseIdx k))) := Ext.write hF hG (by rw [g1]; trivial)
              obtain ⟨y, k1, k2⟩ := RVs.get g2 c4
              obtain ⟨y', r', ev, h3, h4⟩ := h2
              rw [show r' = [] from h4, show y' = V.int i from h3] at ev
              exact .inr ⟨a, ws, i, k, y, rfl, ev, g1, by omega, by omega, by rw [RVs.length g2]; exact c3, k1, p W _ _ x1 (r.write h1 c ⟨_, upd_same, RVs.ext x1 _ _ (RVs.erase k g2)⟩) (RP.of (RV.ext x1 _ _ k2))⟩
      | [.non], _, p | [.bl _], _, p | [.str _], _, p | [.tup _], _, p | [.ktp _], _, p | [.lst _], _, p | [.scr _], _, p | [.dic _ _ _], _, p | [.ref _], _, p | [.fn _], _, p | [.ty _], _, p | [.loc _], _, p => simp only [fPop, c] at p; exact p.elim
      | _ :: _ :: _, _, p => simp only [fPop, c] at p; exact p.elim
    | _ =>
      simp only [fPop, c] at p
      exact p.elim
theorem l_extend : MtL X.K Wx rExtend fExtend := fun σ W H e μ x ds v vs Q r h1 h2 p => by
  match ds, h2, p with
  | [d], h2, p =>
    cases c : contW e μ x with
    | none => simp only [fExtend, c] at p; exact p.elim
    | some u =>
      cases u with
      | lst xs =>
        simp only [fExtend, c] at p
        cases c2 : lstX e μ d with
        | none => simp only [c2] at p; exact p.elim
        | some ys =>
          simp only [c2] at p
          cases c3 : lineB (xs.length + ys.length) with
          | false => simp only [c3] at p; exact p.elim
          | true =>
            simp only [c3] at p
            obtain ⟨a, rfl, ⟨ws, g1, g2⟩, hF, hG⟩ := contW_ok r h1 c
            obtain ⟨y, r', ev, h3, h4⟩ := h2
            rw [show r' = [] from h4] at ev
            subst ev
            obtain ⟨b, us, rfl, k1, k2⟩ := lstX_ok r h3 c2
            have x1 : Ext W H W (upd H a (.lst (ws ++ us))) := Ext.write hF hG (by rw [g1]; trivial)
            exact ⟨a, b, ws, us, rfl, rfl, g1, k1, by rw [RVs.length g2, RVs.length k2]; exact lineB_ok c3, p W _ _ x1 (r.write h1 c ⟨_, upd_same, RVs.ext x1 _ _ (RVs.append g2 k2)⟩) (RP.of rfl)⟩
      | _ => simp only [fExtend, c] at p; exact p.elim
  | [], _, p => exact p.elim
  | _ :: _ :: _, _, p => exact p.elim
end
end Ev

set_option maxRecDepth 100000
set_option maxHeartbeats 4000000
/-! EvW: worlds that guard more. -/
namespace Ev
open PySem PySem.Spec PyProof.Rows L2
variable [PWo]

/-! ### worlds that guard more -/
section
variable {K : PySem.W.Frag} {W W' W1 : Wd} {H H1 : Hp} {e : En} {σ : St} {μ μ1 : Mu}
mutual
theorem RV.cong (h1 : W'.ph = W.ph) (h2 : W'.F = W.F) : ∀ (d : D) (v : V), RV K W H d v → RV K W' H d v
  | .non, v, h => h
  | .bl _, v, h => h
  | .int _, v, h => h
  | .str _, v, h => h
  | .tup xs, v, h => by
    obtain ⟨a, vs, e, g1, g2⟩ := h
    exact ⟨a, vs, e, g1, RVs.cong h1 h2 xs vs g2⟩
  | .ktp xs, v, h => by
    obtain ⟨a, vs, e, g1, g2⟩ := h
    exact ⟨a, vs, e, g1, RVs.cong h1 h2 xs vs g2⟩
  | .lst xs, v, h => by
    obtain ⟨a, vs, e, g1, g2, g3⟩ := h
    exact ⟨a, vs, e, h2 ▸ g1, g2, RVs.cong h1 h2 xs vs g3⟩
  | .scr xs, v, h => by
    obtain ⟨a, vs, e, g1, g3⟩ := h
    exact ⟨a, vs, e, g1.elim (fun z => .inl ⟨h2 ▸ z.1, z.2⟩) .inr, RVs.cong h1 h2 xs vs g3⟩
  | .dic t ks ds, v, h => by
    obtain ⟨a, vs, e, g1, g2, g3⟩ := h
    exact ⟨a, vs, e, h2 ▸ g1, g2, RVs.cong h1 h2 ds vs g3⟩
  | .ref n, v, h => by
    obtain ⟨a, e, g1⟩ := h
    exact ⟨a, e, h1 ▸ g1⟩
  | .fn _, v, h => h
  | .ty _, v, h => h
  | .loc _, v, h => h
theorem RVs.cong (h1 : W'.ph = W.ph) (h2 : W'.F = W.F) : ∀ (ds : List D) (vs : List V), RVs K W H ds vs → RVs K W' H ds vs
  | [], vs, h => h
  | d :: ds, vs, h => by
    obtain ⟨v, r, e, g1, g2⟩ := h
    exact ⟨v, r, e, RV.cong h1 h2 d v g1, RVs.cong h1 h2 ds r g2⟩
end
theorem RO.cong (h1 : W'.ph = W.ph) (h2 : W'.F = W.F) {o : O} {a : Addr} (h : RO K W H o a) : RO K W' H o a := by
  cases o with
  | lst xs =>
    obtain ⟨vs, g1, g2⟩ := h
    exact ⟨vs, g1, RVs.cong h1 h2 _ _ g2⟩
  | dic t ks ds =>
    obtain ⟨vs, hm, g1, g2⟩ := h
    exact ⟨vs, hm, g1, RVs.cong h1 h2 _ _ g2⟩
  | ins C fs =>
    obtain ⟨dx, fv, g1, g2, g3⟩ := h
    exact ⟨dx, fv, g1, g2, RVs.cong h1 h2 _ _ g3⟩
def Wd.more (W : Wd) (P : Addr → Prop) : Wd := { W with G := fun a => W.G a ∨ P a }
def Wd.gr (W : Wd) (G : Addr → Prop) : Wd := { W with G := G }
theorem RelS.more {P : Addr → Prop} (r : RelS K W H μ) (h1 : ∀ a, P a → ¬ W.F a) (h2 : ∀ a, P a → a ∉ W.ph) (h3 : ∀ a, P a → H a ≠ none) : RelS K (W.more P) H μ :=
  ⟨r.len, fun n o a g1 g2 => RO.cong (W := W) (W' := W.more P) rfl rfl (r.obj n o a g1 g2), fun a g => ⟨(r.nF a g).1, fun z => z.elim (r.nF a g).2 fun q => h2 a q g⟩, r.nd, fun a g => fun z => z.elim (r.fg a g) fun q => h1 a q g,
    fun a g => g.elim (fun z => r.tr a (.inl z)) fun z => z.elim (fun q => r.tr a (.inr q)) (h3 a)⟩
theorem RelS.less {G : Addr → Prop} (r : RelS K W H μ) (h : ∀ a, G a → W.G a) : RelS K (W.gr G) H μ :=
  ⟨r.len, fun n o a g1 g2 => RO.cong (W := W) (W' := W.gr G) rfl rfl (r.obj n o a g1 g2), fun a g => ⟨(r.nF a g).1, fun z => (r.nF a g).2 (h a z)⟩, r.nd, fun a g => fun z => r.fg a g (h a z),
    fun a g => g.elim (fun z => r.tr a (.inl z)) fun z => r.tr a (.inr (h a z))⟩
theorem Ext.less {P : Addr → Prop} (x : Ext (W.more P) H W1 H1) : Ext W H (W1.gr W.G) H1 := ⟨x.ph, x.F, fun _ => Iff.rfl, x.kF, x.kL, fun a h => x.kG a (.inl h), x.tup, x.frz, x.kE⟩
theorem Ext.gr {G : Addr → Prop} (x : Ext W H W1 H1) (h : ∀ a, G a ↔ W.G a) : Ext W H (W1.gr G) H1 := ⟨x.ph, x.F, h, x.kF, x.kL, x.kG, x.tup, x.frz, x.kE⟩
/-- the own objects of the slots -/
def ownA (e : En) (σ : St) (a : Addr) : Prop := ∃ i, isOwn e i ∧ σ[i]? = some (some (.ref a))
theorem Rel.ownA (r : Rel K W H e σ μ) {a : Addr} (h : ownA e σ a) : ¬ W.F a ∧ ¬ W.G a ∧ a ∉ W.ph ∧ H a ≠ none := by
  obtain ⟨i, ⟨o, ho⟩, hi⟩ := h
  obtain ⟨b, h1, h2, h3, h4, h5⟩ := r.own i o ho
  rw [hi] at h1
  cases h1
  exact ⟨h3, h4, h5, h2.nn⟩
/-- the slots' own objects guarded, and P -/
theorem Rel.into {P : Addr → Prop} (r : Rel K W H e σ μ) (h1 : ∀ a, P a → ¬ W.F a) (h2 : ∀ a, P a → a ∉ W.ph) (h3 : ∀ a, P a → H a ≠ none) : RelS K (W.more fun a => Ev.ownA e σ a ∨ P a) H μ :=
  r.st.more (fun a z => z.elim (fun q => (r.ownA q).1) (h1 a)) (fun a z => z.elim (fun q => (r.ownA q).2.2.1) (h2 a)) fun a z => z.elim (fun q => (r.ownA q).2.2.2) (h3 a)
theorem Rel.back {P : Addr → Prop} (r : Rel K W H e σ μ) (x : Ext (W.more fun a => Ev.ownA e σ a ∨ P a) H W1 H1) (s : RelS K W1 H1 μ1) : Rel K (W1.gr W.G) H1 e σ μ1 := by
  have y : Ext W H (W1.gr W.G) H1 := x.less
  refine ⟨s.less fun a h => (x.G a).mpr (.inl h), r.len, fun i d h => ?_, fun i o h => ?_, r.apart⟩
  · obtain ⟨v, g1, g2⟩ := r.val i d h
    exact ⟨v, g1, RV.ext y _ _ g2⟩
  · obtain ⟨a, g1, g2, g3, g4, g5⟩ := r.own i o h
    have g : (W.more fun a => Ev.ownA e σ a ∨ P a).G a := .inr (.inl ⟨i, ⟨o, h⟩, g1⟩)
    have g' : W1.G a := (x.G a).mpr g
    exact ⟨a, g1, g2.ext y (x.kG a g), fun z => s.fg a z g', g4, fun z => (s.nF a z).2 g'⟩
theorem XR.cong (h1 : W'.ph = W.ph) (h2 : W'.F = W.F) {x : Ex} {cls : Value} {d : Option Addr} (h : XR K W H x cls d) : XR K W' H x cls d := by
  obtain ⟨C, p⟩ := x
  cases p with
  | none => exact h
  | some q =>
    obtain ⟨f, p⟩ := q
    obtain ⟨g1, dx, v, g2, g3, g4⟩ := h
    exact ⟨g1, dx, v, g2, g3, RV.cong h1 h2 _ _ g4⟩
end

/-- no guard -/
abbrev Wd.bare (W : Wd) : Wd := W.gr fun _ => False
theorem Ext.bare {W W1 : Wd} {H H1 : Hp} (x : Ext W H W1 H1) : Ext W.bare H W1.bare H1 := ⟨x.ph, x.F, fun _ => Iff.rfl, x.kF, x.kL, fun _ h => h.elim, x.tup, x.frz, x.kE⟩
theorem RV.unbare {K : PySem.W.Frag} {W : Wd} {H : Hp} {d : D} {v : V} (h : RV K W.bare H d v) : RV K W H d v := RV.cong (W := W.bare) (W' := W) rfl rfl d v h
theorem RV.tobare {K : PySem.W.Frag} {W : Wd} {H : Hp} {d : D} {v : V} (h : RV K W H d v) : RV K W.bare H d v := RV.cong (W := W) (W' := W.bare) rfl rfl d v h
theorem RVs.unbare {K : PySem.W.Frag} {W : Wd} {H : Hp} {d : List D} {v : List V} (h : RVs K W.bare H d v) : RVs K W H d v := RVs.cong (W := W.bare) (W' := W) rfl rfl d v h
theorem RVs.tobare {K : PySem.W.Frag} {W : Wd} {H : Hp} {d : List D} {v : List V} (h : RVs K W H d v) : RVs K W.bare H d v := RVs.cong (W := W) (W' := W.bare) rfl rfl d v h
end Ev

set_option maxRecDepth 100000
set_option maxHeartbeats 4000000
/-! Ev6: targets, statements, loops. -/
namespace Ev
open PySem PySem.Spec PyProof.Rows L2
variable [PWo]

/-! ### statements -/
def PostS (K : PySem.W.Frag) (Wx : WX) (W0 : Wd) (H0 : Hp) (r : Rst) (D : Ends) : Prop := match r with
  | .nx e μ => ∀ W H σ, Ext W0 H0 W H → Rel K W H e σ μ → D.nx σ H
  | .rt d e μ => ∀ W H v, Ext W0 H0 W H → RelS K W H μ → RV K W H d v → D.rt v H
  | .bk e μ => ∀ W H σ, Ext W0 H0 W H → Rel K W H e σ μ → D.bk σ H
  | .ct e μ => ∀ W H σ, Ext W0 H0 W H → Rel K W H e σ μ → D.ct σ H
  | .ex x e μ => ∀ W H σ cls d, Ext W0 H0 W H → Rel K W H e σ μ → XR K W H x cls d → Wx cls d σ H
  | .bad => False
def TQ (K : PySem.W.Frag) (Wx : WX) (m : MS) : TS := fun D σ H => ∃ W e μ, Rel K W H e σ μ ∧ PostS K Wx W H (m e μ) D
def ES (X : Cx) (Wx : WX) (st : Stmt) (m : MS) : Prop := PS X st (TQ X.K Wx m)
def EB (X : Cx) (Wx : WX) (st : List Stmt) (m : MS) : Prop := PSs X st (TQ X.K Wx m)
theorem PS.weak {X : Cx} {st : Stmt} {t u : TS} (h : PS X st t) (k : ∀ D σ H, u D σ H → t D σ H) : PS X st u := ⟨fun pins s σ H D I q => h.run pins s σ H D I (k D σ H q)⟩
theorem PSs.weak {X : Cx} {st : List Stmt} {t u : TS} (h : PSs X st t) (k : ∀ D σ H, u D σ H → t D σ H) : PSs X st u := ⟨fun pins s σ H D I q => h.run pins s σ H D I (k D σ H q)⟩
section
variable {K : PySem.W.Frag} {Wx : WX} {W W1 : Wd} {H H1 : Hp} {σ : St}
theorem PostS.later {r : Rst} {D : Ends} (x : Ext W H W1 H1) (h : PostS K Wx W H r D) : PostS K Wx W1 H1 r D := by
  cases r with
  | nx e μ => exact fun W2 H2 σ y => h W2 H2 σ (x.trans y)
  | rt d e μ => exact fun W2 H2 v y => h W2 H2 v (x.trans y)
  | bk e μ => exact fun W2 H2 σ y => h W2 H2 σ (x.trans y)
  | ct e μ => exact fun W2 H2 σ y => h W2 H2 σ (x.trans y)
  | ex x' e μ => exact fun W2 H2 σ c d y => h W2 H2 σ c d (x.trans y)
  | bad => exact h
def sSkip : MS := fun e μ => .nx e μ
def sSeq (a b : MS) : MS := fun e μ => match a e μ with
  | .nx e μ => b e μ
  | r => r
def sExp {α : Type} (m : Ma α) (k : α → MS) : MS := fun e μ => match m e μ with
  | .ok a e μ => k a e μ
  | .ex x e μ => .ex x e μ
  | .bad => .bad
theorem PostS.seq {a b : MS} {e : En} {μ : Mu} {D : Ends} (h : PostS K Wx W H (sSeq a b e μ) D) : PostS K Wx W H (a e μ) { D with nx := fun σ H => TQ K Wx b D σ H } := by
  unfold sSeq at h
  cases z : a e μ with
  | nx e1 μ1 =>
    rw [z] at h
    exact fun W1 H1 σ x r => ⟨W1, e1, μ1, r, PostS.later x h⟩
  | rt d e1 μ1 => rw [z] at h; exact h
  | bk e1 μ1 => rw [z] at h; exact h
  | ct e1 μ1 => rw [z] at h; exact h
  | ex x e1 μ1 => rw [z] at h; exact h
  | bad => rw [z] at h; exact h
/-- a statement that begins with an expression -/
theorem TQ.exp {α β : Type} {rel : Rr α β} {m : Ma α} {k : α → MS} {D : Ends} {H : Hp} {R : β → Hp → Prop} (h : TQ K Wx (sExp m k) D σ H)
    (c : ∀ W H e μ a b, Rel K W H e σ μ → rel σ e W H a b → PostS K Wx W H (k a e μ) D → R b H) : TR K Wx rel m σ H R := by
  obtain ⟨W, e, μ, r, p⟩ := h
  refine ⟨W, e, μ, r, ?_⟩
  unfold sExp at p
  cases z : m e μ with
  | ok a e1 μ1 =>
    rw [z] at p
    exact fun W1 H1 b x r1 q => c W1 H1 e1 μ1 a b r1 q (PostS.later x p)
  | ex x e1 μ1 =>
    rw [z] at p
    exact fun W1 H1 c d x r1 => p W1 H1 σ c d x r1
  | bad => rw [z] at p; exact p
end
section
variable {X : Cx} {Wx : WX} {st : Stmt} {sts : List Stmt} {a b : MS} {m : ME} {e : Expr} {pos : Pos}
theorem eb_nil : EB X Wx [] sSkip := PSs.weak pss_nil fun D σ H q => by
  obtain ⟨W, e, μ, r, p⟩ := q
  exact p W H σ Ext.refl r
theorem eb_cons (h1 : ES X Wx st a) (h2 : EB X Wx sts b) : EB X Wx (st :: sts) (sSeq a b) := PSs.weak (pss_cons h1 h2) fun D σ H q => by
  obtain ⟨W, e, μ, r, p⟩ := q
  exact ⟨W, e, μ, r, PostS.seq p⟩
theorem eb_one (h1 : ES X Wx st a) : EB X Wx [st] a := pss_one h1
theorem es_pass : ES X Wx (.Pass pos) sSkip := PS.weak ps_pass fun D σ H q => by
  obtain ⟨W, e, μ, r, p⟩ := q
  exact p W H σ Ext.refl r
def sBrk : MS := fun e μ => .bk e μ
def sCnt : MS := fun e μ => .ct e μ
theorem es_break : ES X Wx (.Break pos) sBrk := PS.weak ps_break fun D σ H q => by
  obtain ⟨W, e, μ, r, p⟩ := q
  exact p W H σ Ext.refl r
theorem es_continue : ES X Wx (.Continue pos) sCnt := PS.weak ps_continue fun D σ H q => by
  obtain ⟨W, e, μ, r, p⟩ := q
  exact p W H σ Ext.refl r
def sBad : MS := fun _ _ => .bad
/-- never reached -/
theorem es_bad : ES X Wx st sBad := PS.weak ps_never fun D σ H q => by
  obtain ⟨W, e, μ, r, p⟩ := q
  exact p
theorem eb_bad : EB X Wx sts sBad := PSs.weak pss_never fun D σ H q => by
  obtain ⟨W, e, μ, r, p⟩ := q
  exact p
def sDo (m : ME) : MS := sExp m fun _ e μ => .nx e μ
theorem es_do (h : EE X Wx e m) (hs : swapsWith e none pos.line X.env = pure false := by rfl) : ES X Wx (.Expr e pos) (sDo m) := PS.weak (ps_expr h hs) fun D σ H q =>
  TQ.exp q fun W H e μ d v r z p => p W H σ Ext.refl r
def sRet (m : ME) : MS := sExp m fun d e μ => match d.plain with
  | true => .rt d e μ
  | false => .bad
theorem es_ret (h : EE X Wx e m) : ES X Wx (.Return (some e) pos) (sRet m) := PS.weak (ps_ret h) fun D σ H q =>
  TQ.exp q fun W H e μ d v r z p => by
    cases c : d.plain with
    | false => simp only [c] at p; exact p.elim
    | true =>
      simp only [c] at p
      exact p W H v Ext.refl r.st (z.val c)
def sIf (c : Ma Bool) (a b : MS) : MS := sExp c fun k => match k with
  | true => a
  | false => b
theorem es_if {c : Expr} {mc : Ma Bool} {xs ys : List Stmt} (hc : ET X Wx c mc) (ha : EB X Wx xs a) (hb : EB X Wx ys b) : ES X Wx (.If c xs ys pos) (sIf mc a b) := PS.weak (ps_if hc ha hb) fun D σ H q =>
  TQ.exp q fun W H e μ k v r z p => by
    cases z
    cases k with
    | true => exact iteT ⟨W, e, μ, r, p⟩
    | false => exact iteF ⟨W, e, μ, r, p⟩
end

/-! ### names stored -/
section
variable {K : PySem.W.Frag} {W : Wd} {H : Hp} {e : En} {σ : St} {μ : Mu} {i : Nat}
theorem get_lt {α : Type} {l : List α} {i : Nat} {a : α} (h : l[i]? = some a) : i < l.length := (List.getElem?_eq_some_iff.mp h).1
theorem Rel.setVal {d : D} {v : V} (r : Rel K W H e σ μ) (h : RV K W H d v) : Rel K W H (e.set i (.val d)) (σ.set i (some v)) μ := by
  have out : ∀ {j : Nat} {l : LV}, (e.set i (.val d))[j]? = some l → (i = j ∧ l = .val d ∧ (σ.set i (some v))[j]? = some (some v)) ∨ (i ≠ j ∧ e[j]? = some l ∧ (σ.set i (some v))[j]? = σ[j]?) := fun {j l} hj => by
    rcases get_set hj with ⟨rfl, e1⟩ | ⟨ne, e1⟩
    · refine .inl ⟨rfl, e1, ?_⟩
      have := get_lt hj
      rw [List.length_set, r.len] at this
      rw [List.getElem?_set_self this]
    · exact .inr ⟨ne, e1, List.getElem?_set_ne ne⟩
  have isO : ∀ {j : Nat}, isOwn (e.set i (.val d)) j → isOwn e j ∧ (σ.set i (some v))[j]? = σ[j]? := fun {j} ⟨o, hj⟩ => by
    rcases out hj with ⟨_, e1, _⟩ | ⟨_, e1, e2⟩
    · cases e1
    · exact ⟨⟨o, e1⟩, e2⟩
  refine ⟨r.st, by rw [List.length_set, List.length_set]; exact r.len, fun j d' hj => ?_, fun j o hj => ?_, fun j k a hj hk e1 e2 => ?_⟩
  · rcases out hj with ⟨rfl, e1, e2⟩ | ⟨ne, e1, e2⟩
    · cases e1
      exact ⟨v, e2, h⟩
    · rw [e2]
      exact r.val j d' e1
  · rcases out hj with ⟨rfl, e1, e2⟩ | ⟨ne, e1, e2⟩
    · cases e1
    · rw [e2]
      exact r.own j o e1
  · obtain ⟨h1, h2⟩ := isO hj
    obtain ⟨h3, h4⟩ := isO hk
    rw [h2] at e1
    rw [h4] at e2
    exact r.apart j k a h1 h3 e1 e2
theorem Rel.setOwn {o : O} {a : Addr} (r : Rel K W H e σ μ) (f : Fresh K σ e W H o a) : Rel K W H (e.set i (.own o)) (σ.set i (some (.ref a))) μ := by
  obtain ⟨f1, f2, f3, f4, f5⟩ := f
  have out : ∀ {j : Nat} {l : LV}, (e.set i (.own o))[j]? = some l → (i = j ∧ l = .own o ∧ (σ.set i (some (V.ref a)))[j]? = some (some (.ref a))) ∨ (i ≠ j ∧ e[j]? = some l ∧ (σ.set i (some (V.ref a)))[j]? = σ[j]?) := fun {j l} hj => by
    rcases get_set hj with ⟨rfl, e1⟩ | ⟨ne, e1⟩
    · refine .inl ⟨rfl, e1, ?_⟩
      have := get_lt hj
      rw [List.length_set, r.len] at this
      rw [List.getElem?_set_self this]
    · exact .inr ⟨ne, e1, List.getElem?_set_ne ne⟩
  have isO : ∀ {j : Nat}, isOwn (e.set i (.own o)) j → (i = j ∧ (σ.set i (some (V.ref a)))[j]? = some (some (.ref a))) ∨ (i ≠ j ∧ isOwn e j ∧ (σ.set i (some (V.ref a)))[j]? = σ[j]?) := fun {j} ⟨u, hj⟩ => by
    rcases out hj with ⟨e0, _, e2⟩ | ⟨ne, e1, e2⟩
    · exact .inl ⟨e0, e2⟩
    · exact .inr ⟨ne, ⟨u, e1⟩, e2⟩
  refine ⟨r.st, by rw [List.length_set, List.length_set]; exact r.len, fun j d' hj => ?_, fun j u hj => ?_, fun j k b hj hk e1 e2 => ?_⟩
  · rcases out hj with ⟨rfl, e1, e2⟩ | ⟨ne, e1, e2⟩
    · cases e1
    · rw [e2]
      exact r.val j d' e1
  · rcases out hj with ⟨rfl, e1, e2⟩ | ⟨ne, e1, e2⟩
    · cases e1
      exact ⟨a, e2, f1, f2, f3, f4⟩
    · rw [e2]
      exact r.own j u e1
  · rcases isO hj with ⟨rfl, h2⟩ | ⟨nj, h1, h2⟩
    · rcases isO hk with ⟨rfl, _⟩ | ⟨_, h3, h4⟩
      · rfl
      · rw [h2] at e1
        rw [h4] at e2
        cases e1
        exact absurd e2 (f5 k h3)
    · rcases isO hk with ⟨rfl, h4⟩ | ⟨_, h3, h4⟩
      · rw [h4] at e2
        rw [h2] at e1
        cases e2
        exact absurd e1 (f5 j h1)
      · rw [h2] at e1
        rw [h4] at e2
        exact r.apart j k b h1 h3 e1 e2
end
def sSet (i : Nat) (m : ME) : MS := sExp m fun d e μ => match d.plain with
  | true => .nx (e.set i (.val d)) μ
  | false => .bad
def sOwn (i : Nat) (m : Ma O) : MS := sExp m fun o e μ => .nx (e.set i (.own o)) μ
section
variable {X : Cx} {Wx : WX} {i : Nat} {x : Str} {e : Expr} {m : ME} {mo : Ma O} {pos pos' : Pos} {st : Stmt} {t : TE}
/-- a name's store, of what has the reading t -/
theorem es_set_of (h : PS X st (tAsg t (gName i))) (k : ∀ σ H Q, TR X.K Wx (relV X.K) m σ H Q → t σ H Q) : ES X Wx st (sSet i m) := PS.weak h fun D σ H q =>
  k σ H _ (TQ.exp q fun W H e μ d v r z p => by
    cases c : d.plain with
    | false => simp only [c] at p; exact p.elim
    | true =>
      simp only [c] at p
      exact p W H _ Ext.refl (r.setVal (z.val c)))
theorem es_own_of (h : PS X st (tAsg t (gName i))) (k : ∀ σ H Q, TR X.K Wx (relO X.K) mo σ H Q → t σ H Q) : ES X Wx st (sOwn i mo) := PS.weak h fun D σ H q =>
  k σ H _ (TQ.exp q fun W H e μ o v r z p => by
    obtain ⟨a, rfl, f⟩ := z
    exact p W H _ Ext.refl (r.setOwn f))
theorem es_set (hN : X.N.Nodup) (hi : X.N[i]? = some x) (hx : Loc X.env.scope x) (he : EE X Wx e m) (hs : swapsWith e (some (.Name x pos')) pos.line X.env = pure false := by rfl) (hf : X.fn x = true ∨ X.env.scope.names.lookup x = some .local := by first | exact .inl rfl | exact .inr rfl | assumption) :
    ES X Wx (.Assign [.Name x pos'] e pos) (sSet i m) := es_set_of (ps_set hN hi hx he hs hf) fun _ _ _ q => q
theorem es_own (hN : X.N.Nodup) (hi : X.N[i]? = some x) (hx : Loc X.env.scope x) (he : EF X Wx e mo) (hs : swapsWith e (some (.Name x pos')) pos.line X.env = pure false := by rfl) (hf : X.fn x = true ∨ X.env.scope.names.lookup x = some .local := by first | exact .inl rfl | exact .inr rfl | assumption) :
    ES X Wx (.Assign [.Name x pos'] e pos) (sOwn i mo) := es_own_of (ps_set hN hi hx he hs hf) fun _ _ _ q => q
end

/-! ### targets -/
abbrev Tg := D → En → Mu → Rs Unit
def PostG (K : PySem.W.Frag) (Wx : WX) (W0 : Wd) (H0 : Hp) (r : Rs Unit) (Q : St → Hp → Prop) : Prop := match r with
  | .ok _ e μ => ∀ W H σ, Ext W0 H0 W H → Rel K W H e σ μ → Q σ H
  | .ex x e μ => ∀ W H σ cls d, Ext W0 H0 W H → Rel K W H e σ μ → XR K W H x cls d → Wx cls d σ H
  | .bad => False
def TGq (K : PySem.W.Frag) (Wx : WX) (f : Tg) : TG := fun v σ H Q => ∃ W d e μ, Rel K W H e σ μ ∧ RP K σ W H d v ∧ PostG K Wx W H (f d e μ) Q
def EG (X : Cx) (Wx : WX) (tg : Expr) (f : Tg) : Prop := PG X tg (TGq X.K Wx f)
abbrev Tgs := List D → En → Mu → Rs Unit
def TGqs (K : PySem.W.Frag) (Wx : WX) (f : Tgs) : TGs := fun vs σ H Q => ∃ W ds e μ, Rel K W H e σ μ ∧ RVs K W H ds vs ∧ PostG K Wx W H (f ds e μ) Q
def EGs (X : Cx) (Wx : WX) (ts : List Expr) (f : Tgs) : Prop := PGs X ts (TGqs X.K Wx f)
theorem PG.weak {X : Cx} {tg : Expr} {t u : TG} (h : PG X tg t) (k : ∀ v σ H Q, u v σ H Q → t v σ H Q) : PG X tg u := ⟨fun pins s σ H v w Q I rv q => h.run pins s σ H v w Q I rv (k v σ H Q q)⟩
theorem PGs.weak {X : Cx} {ts : List Expr} {t u : TGs} (h : PGs X ts t) (k : ∀ v σ H Q, u v σ H Q → t v σ H Q) : PGs X ts u := ⟨fun pins s σ H v w Q I rv q => h.run pins s σ H v w Q I rv (k v σ H Q q)⟩
def gSet (i : Nat) : Tg := fun d e μ => match d.plain with
  | true => .ok () (e.set i (.val d)) μ
  | false => .bad
def gNone : Tgs := fun ds e μ => match ds with
  | [] => .ok () e μ
  | _ => .bad
def gMore (f : Tg) (g : Tgs) : Tgs := fun ds e μ => match ds with
  | d :: r => (f d e μ).bind fun _ e μ => g r e μ
  | [] => .bad
def tupI : D → Option (List D)
  | .tup ds => some ds
  | .ktp ds => some ds
  | _ => none
theorem tupI_ok {K : PySem.W.Frag} {σ : St} {W : Wd} {H : Hp} {d : D} {v : V} {ds : List D} (h : RP K σ W H d v) (q : tupI d = some ds) : ∃ a vs, v = .ref a ∧ TupE K H a vs ∧ RVs K W H ds vs := by
  cases d with
  | tup xs =>
    cases q
    obtain ⟨a, vs, e, g1, g2⟩ := h
    exact ⟨a, vs, e, .inl g1, g2⟩
  | ktp xs =>
    cases q
    obtain ⟨a, vs, e, g1, g2⟩ := h
    exact ⟨a, vs, e, .inr g1, g2⟩
  | _ => cases q
def gTupl (n : Nat) (f : Tgs) : Tg := fun d e μ => match tupI d with
  | some ds => (match Nat.beq ds.length n with
    | true => f ds e μ
    | false => .bad)
  | none => .bad
/-- o[i] = v, a list's -/
def gItem (mo mi : ME) : Tg := fun v e μ => mBind mo (fun o => mBind mi fun k => fun e μ => match k, contW e μ o with
  | .int i, some (.lst xs) => (match v.plain, ixN xs.length i with
    | true, some j => .ok () (putE e o (.lst (xs.set j v))) (putM μ o (.lst (xs.set j v)))
    | _, _ => .bad)
  | _, _ => .bad) e μ
section
variable {K : PySem.W.Frag} {Wx : WX} {W W1 : Wd} {H H1 : Hp} {σ : St}
theorem PostG.later {r : Rs Unit} {Q : St → Hp → Prop} (x : Ext W H W1 H1) (h : PostG K Wx W H r Q) : PostG K Wx W1 H1 r Q := by
  cases r with
  | ok a e μ => exact fun W2 H2 b y => h W2 H2 b (x.trans y)
  | ex x' e μ => exact fun W2 H2 s c d y => h W2 H2 s c d (x.trans y)
  | bad => exact h
theorem PostG.bind {r : Rs Unit} {f : Unit → En → Mu → Rs Unit} {Q : St → Hp → Prop} (h : PostG K Wx W H (r.bind f) Q) : PostG K Wx W H r fun σ H1 => ∃ W1 e μ, Rel K W1 H1 e σ μ ∧ Ext W H W1 H1 ∧ PostG K Wx W1 H1 (f () e μ) Q := by
  cases r with
  | ok a e μ => exact fun W1 H1 σ x y => ⟨W1, e, μ, y, x, PostG.later x h⟩
  | ex x e μ => exact h
  | bad => exact h
/-- an expression within a target -/
theorem PostG.exp {α β : Type} {rel : Rr α β} {r : Rs α} {f : α → En → Mu → Rs Unit} {Q : St → Hp → Prop} (h : PostG K Wx W H (r.bind f) Q) : Post K Wx rel W H σ r fun b H1 => ∃ W1 a e μ, Rel K W1 H1 e σ μ ∧ rel σ e W1 H1 a b ∧ Ext W H W1 H1 ∧ PostG K Wx W1 H1 (f a e μ) Q := by
  cases r with
  | ok a e μ => exact fun W1 H1 b x y z => ⟨W1, a, e, μ, y, z, x, PostG.later x h⟩
  | ex x e μ => exact fun W1 H1 c d x y => h W1 H1 σ c d x y
  | bad => exact h
theorem PostG.mono {r : Rs Unit} {Q Q' : St → Hp → Prop} (h : PostG K Wx W H r Q) (k : ∀ σ H, Q σ H → Q' σ H) : PostG K Wx W H r Q' := by
  cases r with
  | ok a e μ => exact fun W1 H1 s x y => k _ _ (h W1 H1 s x y)
  | ex x e μ => exact h
  | bad => exact h
end
section
variable {X : Cx} {Wx : WX} {i : Nat} {x : Str} {pos : Pos}
theorem eg_name (hN : X.N.Nodup) (hi : X.N[i]? = some x) (hx : Loc X.env.scope x) (hf : X.fn x = true ∨ X.env.scope.names.lookup x = some .local := by first | exact .inl rfl | exact .inr rfl | assumption) : EG X Wx (.Name x pos) (gSet i) :=
  PG.weak (pg_name hN hi hx hf) fun v σ H Q q => by
    obtain ⟨W, d, e, μ, r, z, p⟩ := q
    unfold gSet at p
    cases c : d.plain with
    | false => rw [c] at p; exact p.elim
    | true =>
      rw [c] at p
      exact p W H _ Ext.refl (r.setVal (z.val c))
theorem egs_nil : EGs X Wx [] gNone := PGs.weak pgs_nil fun vs σ H Q q => by
  obtain ⟨W, ds, e, μ, r, z, p⟩ := q
  cases ds with
  | nil => exact ⟨z, p W H σ Ext.refl r⟩
  | cons d ds => exact p.elim
theorem egs_cons {e : Expr} {es : List Expr} {f : Tg} {g : Tgs} (h1 : EG X Wx e f) (h2 : EGs X Wx es g) (hs : (assignEach (e :: es) X.env).map (·.2) = assign e X.env :: (assignEach es X.env).map (·.2) := by rfl) : EGs X Wx (e :: es) (gMore f g) :=
  PGs.weak (pgs_cons h1 h2 hs) fun vs σ H Q q => by
    obtain ⟨W, ds, e, μ, r, z, p⟩ := q
    cases ds with
    | nil => exact p.elim
    | cons d ds =>
      obtain ⟨v, vr, ev, z1, z2⟩ := z
      refine ⟨v, vr, ev, W, d, e, μ, r, RP.of z1, (PostG.bind p).mono fun σ1 H1 ⟨W1, e1, μ1, r1, x1, p1⟩ => ?_⟩
      exact ⟨W1, ds, e1, μ1, r1, RVs.ext x1 _ _ z2, p1⟩
theorem eg_tup {es : List Expr} {k n : Nat} {f : Tgs} (hc : X.calm = true) (h : EGs X Wx es f) (hn : (assignEach es X.env).length = n := by rfl) (hst : (assignEach es X.env).findIdx? (·.1) = none := by rfl) : EG X Wx (.Tuple es k pos) (gTupl n f) :=
  PG.weak (pg_tup hc h hn hst) fun v σ H Q q => by
    obtain ⟨W, d, e, μ, r, z, p⟩ := q
    unfold gTupl at p
    cases hd : tupI d with
    | none => rw [hd] at p; exact p.elim
    | some ds =>
      rw [hd] at p
      obtain ⟨a, vs, rfl, z1, z2⟩ := tupI_ok z hd
      have p' : PostG X.K Wx W H (match Nat.beq ds.length n with | true => f ds e μ | false => .bad) Q := p
      cases c : Nat.beq ds.length n with
      | false => rw [c] at p'; exact p'.elim
      | true =>
        rw [c] at p'
        exact ⟨a, vs, rfl, z1.sq, (RVs.length z2).trans (Nat.eq_of_beq_eq_true c), W, ds, e, μ, r, z2, p'⟩
theorem eg_item {o k : Expr} {mo mi : ME} (ho : EE X Wx o mo) (hk : EE X Wx k mi)
    (ha : ∀ v, assign (.Subscript o k pos) X.env v = (do
      let ov ← holding [v] (eval o X.env)
      let iv ← holding [v, ov] (eval k X.env)
      standAt pos
      holding [v, ov, iv] (setItem ov iv v)
      release [v, ov, iv] []) := by intro _; rfl) : EG X Wx (.Subscript o k pos) (gItem mo mi) :=
  PG.weak (pg_sub ho hk set_list ha) fun v σ H Q q => by
    obtain ⟨W, d, e, μ, r, z, p⟩ := q
    refine ⟨W, e, μ, r, (PostG.exp p).mono fun x H1 ⟨W1, u, e1, μ1, r1, z1, x1, p1⟩ => ?_⟩
    refine ⟨W1, e1, μ1, r1, (PostG.exp p1).mono fun y H2 ⟨W2, w, e2, μ2, r2, z2, x2, p2⟩ => ?_⟩
    cases w with
    | int i =>
      cases c : contW e2 μ2 u with
      | none => simp only [c] at p2; exact p2.elim
      | some cc =>
        cases cc with
        | lst xs =>
          simp only [c] at p2
          cases c1 : d.plain with
          | false => simp only [c1] at p2; exact p2.elim
          | true =>
            cases c2 : ixN xs.length i with
            | none => simp only [c1, c2] at p2; exact p2.elim
            | some j =>
              simp only [c1, c2] at p2
              have z1' := RP.ext x2 z1
              obtain ⟨a, rfl, ⟨ws, g1, g2⟩, hF, hG⟩ := contW_ok r2 z1' c
              have x3 : Ext W2 H2 W2 (upd H2 a (.lst (ws.set j v))) := Ext.write hF hG (by rw [g1]; trivial)
              have zv : RV X.K W2 H2 d v := (RP.ext x2 (RP.ext x1 z)).val c1
              exact ⟨a, ws, i, j, rfl, z2, g1, by rw [RVs.length g2]; exact c2, p2 W2 _ σ x3 (r2.write z1' c ⟨_, upd_same, RVs.ext x3 _ _ (RVs.set zv j g2)⟩)⟩
        | _ => simp only [c] at p2; exact p2.elim
    | _ => exact p2.elim
end
/-- target = value -/
def sAsg (m : ME) (f : Tg) : MS := sExp m fun d e μ => match f d e μ with
  | .ok _ e μ => .nx e μ
  | .ex x e μ => .ex x e μ
  | .bad => .bad
theorem PostG.of_asg {K : PySem.W.Frag} {Wx : WX} {W : Wd} {H : Hp} {r : Rs Unit} {D : Ends} (p : PostS K Wx W H (match r with | .ok _ e μ => .nx e μ | .ex x e μ => .ex x e μ | .bad => .bad) D) : PostG K Wx W H r D.nx := by
  cases r with
  | ok a e μ => exact p
  | ex x e μ => exact p
  | bad => exact p
theorem es_asg {X : Cx} {Wx : WX} {tg e : Expr} {m : ME} {f : Tg} {pos : Pos} (he : EE X Wx e m) (hg : EG X Wx tg f) (hs : swapsWithSole [tg] e pos.line X.env = pure false := by rfl) (hw : swappedStores [tg] e X.env = pure none := by rfl)
    (h1 : (assignEach [tg] X.env).map (·.2) = [assign tg X.env] := by rfl) : ES X Wx (.Assign [tg] e pos) (sAsg m f) := PS.weak (ps_asg he hg hs hw h1) fun D σ H q =>
  TQ.exp q fun W H e μ d v r z p => ⟨W, d, e, μ, r, z, PostG.of_asg p⟩

/-! ### what is walked -/
/-- the iterator J walks these, in every later world -/
def ItOk (K : PySem.W.Frag) (W : Wd) (H : Hp) (J : It) (ds : List D) : Prop := ∀ (i : Nat) (W1 : Wd) (H1 : Hp), Ext W.bare H W1.bare H1 →
  (i < ds.length → J.go i H1 ∧ ∀ x H2, J.yld i H1 x H2 → Same H1 H2 ∧ ∃ d, ds[i]? = some d ∧ d.plain = true ∧ RV K W1 H2 d x) ∧ (ds.length ≤ i → J.stop i H1)
abbrev relI (K : PySem.W.Frag) : Rr (List D) It := fun _ _ W H ds J => ItOk K W H J ds
def EI (X : Cx) (Wx : WX) (tg iter : Expr) (m : Ma (List D)) : Prop := PI X tg iter (fun σ H R => TR X.K Wx (relI X.K) m σ H R)
theorem PI.weak {X : Cx} {tg e : Expr} {t u : TI} (h : PI X tg e t) (k : ∀ σ H R, u σ H R → t σ H R) : PI X tg e u := ⟨fun pins s σ H R I q => h.run pins s σ H R I (k σ H R q)⟩
/-- a tuple, a list that stays as it is -/
def frzSeq (d : D) : Ma (List D) := fun e μ => match d with
  | .tup xs => .ok xs e μ
  | .ktp xs => .ok xs e μ
  | .lst xs => .ok xs e μ
  | .scr xs => .ok xs e μ
  | _ => .bad
section
variable {X : Cx} {Wx : WX} {tg e : Expr} {m : ME}
def iSeq (K : PySem.W.Frag) (tl : TE) : TI := fun σ H R => tl σ H fun x H1 => ∃ a, x = .ref a ∧ (((∃ xs, SqL K H1 a xs) ∧ R (Itl K a) H1) ∨ ((∃ xs, SqT K H1 a xs) ∧ R (Itt K a) H1))
theorem pi_seq {tl : TE} (hl : PE X e tl) : PI X tg e (iSeq X.K tl) := by
  refine ⟨fun pins s σ H R I h => thn (hl.run pins s σ H _ I h) fun v s1 ⟨x, H1, I1, r1, a, ex, q1⟩ => ?_⟩
  subst ex
  obtain rfl : v = Value.ref a := r1
  have new : ∀ o : Obj, Inv X pins σ H1 { s1 with heap := s1.heap.push o } := fun o => I1.kept (t' := s1.toks) fun b u z => Heap.get?_push_of_some _ z
  have own : ∀ b ∈ [s1.heap.objs.size], FpOk X pins H1 b := fun b hb => by
    rw [List.mem_singleton.mp hb]
    exact I1.fpOk (Nat.le_refl _) I1.fresh
  rcases q1 with ⟨⟨xs, hq⟩, q⟩ | ⟨⟨xs, hq⟩, q⟩
  · obtain ⟨its, _, pl, _⟩ := I1.list hq
    exact wpAny_pyIter_list pl.isList ⟨s1.heap.objs.size, [s1.heap.objs.size], _, _, H1, rfl, new _, turn_list a _, ⟨_, Heap.get?_push_size _ rfl, rfl, rfl⟩, own, q⟩
  · obtain ⟨its, _, tp, _⟩ := I1.tuple hq
    exact wpAny_pyIter_tuple (items := its.toArray) tp ⟨s1.heap.objs.size, [s1.heap.objs.size], _, _, H1, rfl, new _, turn_tuple a _, ⟨_, Heap.get?_push_size _ rfl, rfl, rfl⟩, own, q⟩
theorem plain_of {K : PySem.W.Frag} {W : Wd} {H : Hp} {d : D} {v : V} (h : RV K W H d v) : d.plain = true := by
  cases d <;> first | rfl | exact h.elim
theorem itl_ok {K : PySem.W.Frag} {W : Wd} {H : Hp} {a : Addr} {ds : List D} {vs : List V} (h : ∀ W1 H1, Ext W.bare H W1 H1 → SqL K H1 a vs) (g : RVs K W H ds vs) : ItOk K W H (Itl K a) ds := fun i W1 H1 x => by
  have s1 := h W1.bare H1 x
  have g1 := RVs.unbare (RVs.ext x _ _ (RVs.tobare g))
  refine ⟨fun hi => ?_, fun hi => ⟨vs, s1, by rw [RVs.length g]; exact hi⟩⟩
  obtain ⟨v, e1, e2⟩ := RVs.get g1 (List.getElem?_eq_getElem hi)
  refine ⟨⟨vs, v, s1, e1⟩, fun y H2 ⟨eH, hy⟩ => ?_⟩
  have := hy vs s1
  rw [e1] at this
  cases this
  subst eH
  exact ⟨Same.refl _, _, List.getElem?_eq_getElem hi, plain_of e2, e2⟩
theorem itt_ok {K : PySem.W.Frag} {W : Wd} {H : Hp} {a : Addr} {ds : List D} {vs : List V} (h : TupE K H a vs) (g : RVs K W H ds vs) : ItOk K W H (Itt K a) ds := fun i W1 H1 x => by
  have s1 := (TupE.ext x h).sq
  have g1 := RVs.unbare (RVs.ext x _ _ (RVs.tobare g))
  refine ⟨fun hi => ?_, fun hi => ⟨vs, s1, by rw [RVs.length g]; exact hi⟩⟩
  obtain ⟨v, e1, e2⟩ := RVs.get g1 (List.getElem?_eq_getElem hi)
  refine ⟨⟨vs, v, s1, e1⟩, fun y H2 ⟨eH, hy⟩ => ?_⟩
  have := hy vs s1
  rw [e1] at this
  cases this
  subst eH
  exact ⟨Same.refl _, _, List.getElem?_eq_getElem hi, plain_of e2, e2⟩
theorem ei_seq (h : EE X Wx e m) : EI X Wx tg e (mBind m frzSeq) := PI.weak (pi_seq h) fun σ H R q => TR.one q fun W H e μ d v r z p => by
  cases d with
  | tup xs =>
    obtain ⟨a, vs, rfl, g1, g2⟩ := z
    exact ⟨a, rfl, .inr ⟨⟨vs, g1.sq⟩, Post.ok p r (itt_ok (.inl g1) g2)⟩⟩
  | ktp xs =>
    obtain ⟨a, vs, rfl, g1, g2⟩ := z
    exact ⟨a, rfl, .inr ⟨⟨vs, TupE.sq (.inr g1)⟩, Post.ok p r (itt_ok (.inr g1) g2)⟩⟩
  | lst xs =>
    obtain ⟨a, vs, rfl, hF, g1, g2⟩ := z
    exact ⟨a, rfl, .inl ⟨⟨vs, .inl (.inl g1)⟩, Post.ok p r (itl_ok (fun W1 H1 x => .inl (.inl (x.kL a vs hF g1))) g2)⟩⟩
  | scr xs =>
    obtain ⟨a, vs, rfl, g1, g2⟩ := z
    exact ⟨a, rfl, .inl ⟨⟨vs, scrL g1⟩, Post.ok p r (itl_ok (fun W1 H1 x => scrX (W := W.bare) x g1) g2)⟩⟩
  | _ => exact p.elim
/-- range(n), range(a, b) -/
def rngD (lo : Int) (n : Nat) : List D := (List.range n).map fun (i : Nat) => D.int (lo + (i : Int))
def fRng1 (d : D) : Ma (List D) := fun e μ => match d with
  | .int j => (match szB j with
    | true => .ok (rngD 0 j.toNat) e μ
    | false => .bad)
  | _ => .bad
def fRng2 (a b : D) : Ma (List D) := fun e μ => match a, b with
  | .int i, .int j => (match szB i && szB j with
    | true => .ok (rngD i (j - i).toNat) e μ
    | false => .bad)
  | _, _ => .bad
theorem itr_ok {K : PySem.W.Frag} {W : Wd} {H : Hp} (lo : Int) (n : Nat) : ItOk K W H (Itr lo n) (rngD lo n) := fun i W1 H1 x => by
  have hl : (rngD lo n).length = n := by simp [rngD]
  refine ⟨fun hi => ⟨by rw [hl] at hi; exact hi, fun y H2 ⟨eH, hy⟩ => ?_⟩, fun hi => by rw [hl] at hi; exact hi⟩
  subst eH
  rw [hl] at hi
  refine ⟨Same.refl _, .int (lo + (i : Int)), ?_, rfl, hy⟩
  simp [rngD, List.getElem?_range hi]
variable {a b : Expr} {ml : Ma (List D)} {p pos : Pos}
theorem ei_rng1 (hg : Gl X "range") (hm : X.mg "range" = none) (ha : EA X Wx [a] ml) (hs : starEach [a] X.env = [(false, eval a X.env)] := by rfl) : EI X Wx tg (.Call (.Name "range" p) [a] [] pos) (mBind ml (one fRng1)) :=
  PI.weak (pi_range1 hg hm ha hs) fun σ H R q => TR.one q fun W H e μ ds vs r z p => by
    obtain ⟨d, v, rfl, rfl, h1, p⟩ := one_ok z p
    cases d with
    | int j =>
      have p' : Post X.K Wx (relI X.K) W H σ (match szB j with
        | true => (.ok (rngD 0 j.toNat) e μ : Rs (List D))
        | false => .bad) R := p
      cases c : szB j with
      | false => rw [c] at p'; exact p'.elim
      | true =>
        rw [c] at p'
        have c1 := szB_ok c
        rw [show v = V.int j from h1]
        exact ⟨j, rfl, by omega, by omega, Post.ok p' r (itr_ok 0 _)⟩
    | _ => exact p.elim
theorem ei_rng2 (hg : Gl X "range") (hm : X.mg "range" = none) (ha : EA X Wx [a, b] ml) (hs : starEach [a, b] X.env = [(false, eval a X.env), (false, eval b X.env)] := by rfl) (hs2 : starEach [b] X.env = [(false, eval b X.env)] := by rfl) : EI X Wx tg (.Call (.Name "range" p) [a, b] [] pos) (mBind ml (two fRng2)) :=
  PI.weak (pi_range2 hg hm ha hs hs2) fun σ H R q => TR.one q fun W H e μ ds vs r z p => by
    obtain ⟨d, d', v, v', rfl, h1, h2, p⟩ := two_ok z p
    cases d with
    | int i =>
      cases d' with
      | int j =>
        have p' : Post X.K Wx (relI X.K) W H σ (match szB i && szB j with
          | true => (.ok (rngD i (j - i).toNat) e μ : Rs (List D))
          | false => .bad) R := p
        cases c : szB i && szB j with
        | false => rw [c] at p'; exact p'.elim
        | true =>
          rw [c] at p'
          obtain ⟨c1, c2⟩ := Bool.and_eq_true_iff.mp c
          have c3 := szB_ok c1
          have c4 := szB_ok c2
          rw [show v = V.int i from h1, show v' = V.int j from h2]
          exact ⟨i, j, rfl, ⟨by omega, by omega, by omega, by omega⟩, Post.ok p' r (itr_ok i _)⟩
      | _ => exact p.elim
    | _ => exact p.elim
end

/-! ### for, while -/
def forL (g : Tg) (b : MS) : List D → MS
  | [] => fun e μ => .nx e μ
  | d :: ds => fun e μ => match g d e μ with
    | .ok _ e μ => (match b e μ with
      | .nx e μ => forL g b ds e μ
      | .ct e μ => forL g b ds e μ
      | .bk e μ => .nx e μ
      | r => r)
    | .ex x e μ => .ex x e μ
    | .bad => .bad
def sFor (m : Ma (List D)) (g : Tg) (b : MS) : MS := sExp m fun ds => forL g b ds
theorem drop_cons {α : Type} {l : List α} {i : Nat} {a : α} (h : l[i]? = some a) : l.drop i = a :: l.drop (i + 1) := by
  obtain ⟨hi, e⟩ := List.getElem?_eq_some_iff.mp h
  rw [List.drop_eq_getElem_cons hi, e]
section
variable {X : Cx} {Wx : WX} {tg iter : Expr} {m : Ma (List D)} {g : Tg} {body : List Stmt} {b : MS} {pos : Pos} {c : Expr} {mc : Ma Bool}
theorem es_for (hp : PassesOwn (model X.prog X.w) X.A X.env X.xe) (hc : X.calm = true) (hi : EI X Wx tg iter m) (hg : EG X Wx tg g) (hb : EB X Wx body b) (hs : ∀ x, foldedSetIterable iter X.env x = pure x := by intro _; rfl) : ES X Wx (.For tg iter body [] pos) (sFor m g b) :=
  PS.weak (ps_for hp hc hi hg hb hs) fun D σ H q => TQ.exp q fun W H e μ ds J r z p => by
    refine ⟨fun i k σ1 H1 => k = ds.length - i ∧ ∃ W1 e1 μ1, Rel X.K W1 H1 e1 σ1 μ1 ∧ Ext W H W1 H1 ∧ PostS X.K Wx W1 H1 (forL g b (ds.drop i) e1 μ1) D, ⟨_, rfl, W, e, μ, r, Ext.refl, p⟩, ?_⟩
    rintro i k σ1 H1 ⟨rfl, W1, e1, μ1, r1, x1, p1⟩
    obtain ⟨z1, z2⟩ := z i W1 H1 x1.bare
    by_cases hi : i < ds.length
    · obtain ⟨go, yl⟩ := z1 hi
      refine .inr ⟨go, fun σ2 H2 => ∃ W2 e2 μ2, Rel X.K W2 H2 e2 σ2 μ2 ∧ Ext W H W2 H2 ∧ PostS X.K Wx W2 H2 (forL g b (ds.drop (i + 1)) e2 μ2) D, fun σ2 H2 h => ⟨ds.length - (i + 1), by omega, rfl, h⟩, fun x H2 hy => ?_⟩
      obtain ⟨s2, d, hd, hpl, hv⟩ := yl x H2 hy
      rw [drop_cons hd] at p1
      have x2 : Ext W1 H1 W1 H2 := Ext.same r1.st s2
      refine ⟨W1, d, e1, μ1, r1.same s2, RP.of hv, ?_⟩
      have p2 := PostS.later x2 p1
      simp only [forL] at p2
      cases hgd : g d e1 μ1 with
      | bad => rw [hgd] at p2; exact p2
      | ex x' e2 μ2 => rw [hgd] at p2; exact p2
      | ok u e2 μ2 =>
        rw [hgd] at p2
        intro W3 H3 σ3 x3 r3
        refine ⟨W3, e2, μ2, r3, ?_⟩
        have p3 := PostS.later x3 p2
        have xx : Ext W H W3 H3 := (x1.trans x2).trans x3
        simp only at p3
        cases hbd : b e2 μ2 with
        | nx e3 μ3 =>
          rw [hbd] at p3
          exact fun W4 H4 σ4 x4 r4 => ⟨W4, e3, μ3, r4, xx.trans x4, PostS.later x4 p3⟩
        | ct e3 μ3 =>
          rw [hbd] at p3
          exact fun W4 H4 σ4 x4 r4 => ⟨W4, e3, μ3, r4, xx.trans x4, PostS.later x4 p3⟩
        | bk e3 μ3 => rw [hbd] at p3; exact p3
        | rt d e3 μ3 => rw [hbd] at p3; exact p3
        | ex x e3 μ3 => rw [hbd] at p3; exact p3
        | bad => rw [hbd] at p3; exact p3
    · have hn : ds.drop i = [] := List.drop_eq_nil_of_le (by omega)
      rw [hn] at p1
      exact .inl ⟨z2 (by omega), p1 W1 H1 σ1 Ext.refl r1⟩
def whileL (c : Ma Bool) (b : MS) : Nat → MS
  | 0 => fun _ _ => .bad
  | n + 1 => fun e μ => match c e μ with
    | .ok true e μ => (match b e μ with
      | .nx e μ => whileL c b n e μ
      | .ct e μ => whileL c b n e μ
      | .bk e μ => .nx e μ
      | r => r)
    | .ok false e μ => .nx e μ
    | .ex x e μ => .ex x e μ
    | .bad => .bad
theorem es_while (n : Nat) (hp : PassesOwn (model X.prog X.w) X.A X.env X.xe) (hc : ET X Wx c mc) (hb : EB X Wx body b) : ES X Wx (.While c body [] pos) (whileL mc b n) :=
  PS.weak (ps_while hp hc hb) fun D σ H q => by
    obtain ⟨W, e, μ, r, p⟩ := q
    refine ⟨fun k σ1 H1 => ∃ W1 e1 μ1, Rel X.K W1 H1 e1 σ1 μ1 ∧ PostS X.K Wx W1 H1 (whileL mc b k e1 μ1) D, ⟨n, W, e, μ, r, p⟩, ?_⟩
    rintro k σ1 H1 ⟨W1, e1, μ1, r1, p1⟩
    cases k with
    | zero => exact p1.elim
    | succ k =>
      refine ⟨W1, e1, μ1, r1, ?_⟩
      simp only [whileL] at p1
      cases hcd : mc e1 μ1 with
      | bad => rw [hcd] at p1; exact p1
      | ex x e2 μ2 =>
        rw [hcd] at p1
        exact fun W2 H2 cls d x2 r2 => p1 W2 H2 σ1 cls d x2 r2
      | ok t e2 μ2 =>
        rw [hcd] at p1
        intro W2 H2 t' x2 r2 et
        cases et
        have p2 := PostS.later x2 p1
        cases t with
        | false => exact iteF (p2 W2 H2 σ1 Ext.refl r2)
        | true =>
          refine iteT ⟨fun σ3 H3 => ∃ W3 e3 μ3, Rel X.K W3 H3 e3 σ3 μ3 ∧ PostS X.K Wx W3 H3 (whileL mc b k e3 μ3) D, fun σ3 H3 h => ⟨k, Nat.lt_succ_self _, h⟩, W2, e2, μ2, r2, ?_⟩
          simp only at p2
          cases hbd : b e2 μ2 with
          | nx e3 μ3 =>
            rw [hbd] at p2
            exact fun W4 H4 σ4 x4 r4 => ⟨W4, e3, μ3, r4, PostS.later x4 p2⟩
          | ct e3 μ3 =>
            rw [hbd] at p2
            exact fun W4 H4 σ4 x4 r4 => ⟨W4, e3, μ3, r4, PostS.later x4 p2⟩
          | bk e3 μ3 => rw [hbd] at p2; exact p2
          | rt d e3 μ3 => rw [hbd] at p2; exact p2
          | ex x e3 μ3 => rw [hbd] at p2; exact p2
          | bad => rw [hbd] at p2; exact p2
end
end Ev

set_option maxRecDepth 100000
set_option maxHeartbeats 4000000
/-! Ev7: functions, calls. -/
namespace Ev
open PySem PySem.Spec PyProof.Rows L2
variable [PWo]

/-! ### contracts -/
def PostF (K : PySem.W.Frag) (W0 : Wd) (H0 : Hp) (r : Rc) (Q : VK) (E : XK) : Prop := match r with
  | .ok d μ => ∀ W H v, Ext W0 H0 W H → RelS K W H μ → RV K W H d v → Q v H
  | .ex x μ => ∀ W H cls dd, Ext W0 H0 W H → RelS K W H μ → XR K W H x cls dd → E cls dd H
  | .bad => False
def SpF (K : PySem.W.Frag) (mf : MF) : Sp := fun vs H Q E => ∃ W ds μ, RelS K W H μ ∧ RVs K W H ds vs ∧ PostF K W H (mf ds μ) Q E
structure FnG (P : Program) (w : World) (K : PySem.W.Frag) (mg : Str → Option Value) (base : Heap) (k : Nat) (f : Addr) (fd : FuncData) (ps : List Str) (mf : MF) : Prop where
  len : ∀ ds μ, mf ds μ ≠ .bad → ds.length = ps.length
  run : ∀ (A : Around) (outer : List Env) (s : Shared) (H : Hp) (args : Args) (us : List Value) (vs : List V) (Q : VK) (E : XK), Room k A → A.guards = some [] → Env0 P w K mg base A outer s H →
    BindsTo s fd args (ps.zip us) → Vals vs us → SpF K mf vs H Q E → codeAny (model P w) A (.call (.ref f) args) (CR (L2.CX P w) outer P w H s Q E) s
def outF : Rst → Rc
  | .nx _ μ => .ok .non μ
  | .rt d _ μ => .ok d μ
  | .ex x _ μ => .ex x μ
  | _ => .bad
def en0 (N : Nat) (ds : List D) : En := ds.map .val ++ List.replicate (N - ds.length) .no
def mFun (n N : Nat) (b : MS) : MF := fun ds μ => match Nat.beq ds.length n with
  | true => outF (b (en0 N ds) μ)
  | false => .bad
section
variable {P : Program} {w : World} {K : PySem.W.Frag} {mg : Str → Option Value} {base : Heap} {k : Nat} {f : Addr} {name qual : Str} {params : Arguments} {body : List Stmt} {scope : Scope} {dV kV doc pm cdv ct oc : Value} {an od : Option Addr}
  {osl : Array (Option Value)} {N ps : List Str} {mb : MS}
theorem rel_start {W : Wd} {H : Hp} {μ : Mu} {ds : List D} {vs : List V} (N : List Str) (r : RelS K W H μ) (h : RVs K W H ds vs) : Rel K W H (en0 N.length ds) (start N vs) μ := by
  have hl := RVs.length h
  have key : ∀ {i : Nat} {l : LV}, (en0 N.length ds)[i]? = some l → (∃ d, l = .val d ∧ ds[i]? = some d) ∨ l = .no := fun {i l} z => by
    unfold en0 at z
    by_cases hi : i < (ds.map LV.val).length
    · rw [List.getElem?_append_left hi, List.getElem?_map] at z
      cases q : ds[i]? with
      | none => rw [q] at z; cases z
      | some d => rw [q] at z; cases z; exact .inl ⟨d, rfl, rfl⟩
    · rw [List.getElem?_append_right (by omega), List.getElem?_replicate] at z
      split at z
      · cases z; exact .inr rfl
      · cases z
  refine ⟨r, ?_, fun i d z => ?_, fun i o z => ?_, fun i j a ⟨o, z⟩ => ?_⟩
  · unfold en0 L2.start
    rw [List.length_append, List.length_append, List.length_map, List.length_map, List.length_replicate, List.length_replicate, hl]
  · rcases key z with ⟨d', e1, e2⟩ | e1
    · cases e1
      obtain ⟨v, e3, e4⟩ := RVs.get h e2
      refine ⟨v, ?_, e4⟩
      unfold L2.start
      have hi : i < vs.length := (List.getElem?_eq_some_iff.mp e3).1
      rw [List.getElem?_append_left (by simpa using hi), List.getElem?_map, e3]
      rfl
    · cases e1
  · rcases key z with ⟨d', e1, e2⟩ | e1 <;> cases e1
  · rcases key z with ⟨d', e1, e2⟩ | e1 <;> cases e1
theorem len_eq {a b : Nat} (h : Nat.beq a b = true) : a = b := Nat.eq_of_beq_eq_true h
/-- a def, by its body -/
theorem fnG_of (lk : K.lookup f = some ⟨oc, od, .func (PySem.W.fnOf name qual params body scope dV kV doc pm an cdv ct), osl⟩) (hcd : PySem.W.codeIn K cdv qual = true) (S : FnScope N ps scope)
    (hbody : ∀ (A : Around) (outer : List Env) (s : Shared) (H : Hp) (E : XK), Room k (A.deeper (envOfC qual scope s.heap.objs.size f cdv)) → (A.deeper (envOfC qual scope s.heap.objs.size f cdv)).guards = some [] →
      EB (cxOf (L2.CX P w) P w K mg base N qual scope f cdv A outer s H E) (fun cls d _ H => E cls d H) body mb) :
    FnG P w K mg base (k + 1) f (PySem.W.fnOf name qual params body scope dV kV doc pm an cdv ct) ps (mFun ps.length N.length mb) := by
  refine ⟨fun ds μ h => ?_, fun A outer s H args us vs Q E hr hgd e0 hb r hsp => ?_⟩
  · cases c : Nat.beq ds.length ps.length with
    | true => exact len_eq c
    | false => exact absurd (by unfold mFun; rw [c]) h
  obtain ⟨W, ds, μ, hR, hV, hP⟩ := hsp
  unfold mFun at hP
  cases c : Nat.beq ds.length ps.length with
  | false => rw [c] at hP; exact hP.elim
  | true =>
    rw [c] at hP
    replace hP : PostF K W H (outF (mb (en0 N.length ds) μ)) Q E := hP
    have hl : vs.length = ps.length := (RVs.length hV).trans (len_eq c)
    have kept := fun b o e => (e0.bs b o e).1
    have KX : K.In s.heap := e0.mod.kin.keeps kept
    have lim : s.heap.NoLimit := e0.mod.nolimit.keeps kept
    have hkind : ∀ y ∈ ps.zip us, scope.names.lookup y.1 = some .local ∨ (scope.names.lookup y.1 = some .cell ∧ ((cellsFrom (s.heap.objs.size + 1) scope.names []).lookup y.1).isSome = true) := by
      rintro ⟨n, v⟩ hy
      rcases S.par n (List.of_mem_zip hy).1 with q | q
      · exact .inl q
      · exact .inr ⟨q, PySem.W.cellsFrom_some _ _ _ (.inl q)⟩
    have hgd' : (A.deeper (envOfC qual scope s.heap.objs.size f cdv)).guards = some [] := hgd
    refine codeAny_call_function hr.depth (KX _ _ lk) rfl S.co S.gen rfl (PySem.W.codeRec_of KX hcd) (hb _ _ _ _ ?_)
    refine wpAny_newFunctionEnv_cells S.kind hkind fun env he s1 x => ?_
    subst he
    refine ⟨lim.keeps x.toInCall.keep, codeAny_func ?_⟩
    have I := inv_start (CX := L2.CX P w) (E := E) S hr.hd e0 hl r x
    have hrun := hbody A outer s H E (hr.deeper _) hgd'
    have key : ∀ σ' H' (v : V), Q v H' → ∀ u s', Inv (cxOf (L2.CX P w) P w K mg base N qual scope f cdv A outer s H E) [] σ' H' s' → RelV v u → CE outer P w H s Q u s' :=
      fun σ' H' v q u s' J rv => ⟨v, H', J.os, J.bare, J.base, J.hok, rv, q⟩
    refine wpAny_mono (hrun.run [] s1 (start N vs) H { nx := fun _ H' => Q .non H', rt := Q } I ⟨W, en0 N.length ds, μ, rel_start N hR hV, ?_⟩) (fun fl s' hs => ?_) fun e s' hs => hs
    · cases z : mb (en0 N.length ds) μ with
      | nx e1 μ1 =>
        rw [z] at hP
        exact fun W1 H1 σ1 x1 r1 => hP W1 H1 .non x1 r1.st rfl
      | rt d e1 μ1 =>
        rw [z] at hP
        exact fun W1 H1 v x1 r1 q => hP W1 H1 v x1 r1 q
      | ex x' e1 μ1 =>
        rw [z] at hP
        exact fun W1 H1 σ1 cls d x1 r1 q => hP W1 H1 cls d x1 r1.st q
      | bk e1 μ1 => rw [z] at hP; exact hP.elim
      | ct e1 μ1 => rw [z] at hP; exact hP.elim
      | bad => rw [z] at hP; exact hP.elim
    · cases fl with
      | ret u =>
        obtain ⟨v, σ', H', J, rv, q⟩ := hs
        exact key σ' H' v q u s' J rv
      | next =>
        obtain ⟨σ', H', J, q⟩ := hs
        exact key σ' H' .non q .none s' J rfl
      | brk =>
        obtain ⟨_, _, _, q⟩ := hs
        exact q.elim
      | cont =>
        obtain ⟨_, _, _, q⟩ := hs
        exact q.elim
end
/-- by the head's facts -/
theorem FunD.okG {P : Program} {w : World} {K : PySem.W.Frag} {mg : Str → Option Value} {base : Heap} {x qual : Str} {params : Arguments} {body : List Stmt} {scope : Scope} {dvs : List V} {kws : List (Str × V)} {f : Addr} {fd : FuncData} {N ps : List Str} {k : Nat} {mb : MS}
    (F : FunD K x qual params body scope dvs kws f fd) (S : FnScope N ps scope)
    (hbody : ∀ (cdv : Value) (A : Around) (outer : List Env) (s : Shared) (H : Hp) (E : XK), Room k (A.deeper (envOfC qual scope s.heap.objs.size f cdv)) → (A.deeper (envOfC qual scope s.heap.objs.size f cdv)).guards = some [] →
      EB (cxOf (L2.CX P w) P w K mg base N qual scope f cdv A outer s H E) (fun cls d _ H => E cls d H) body mb) :
    FnG P w K mg base (k + 1) f fd ps (mFun ps.length N.length mb) := by
  obtain ⟨oc, od, dV, kV, doc, pm, an, cdv, ct, osl, rfl, lk, hcd, _, _⟩ := F.ex
  exact fnG_of lk hcd S fun A outer s H E hr hg => hbody cdv A outer s H E hr hg
theorem FnG.mono {P : Program} {w : World} {K : PySem.W.Frag} {mg : Str → Option Value} {base : Heap} {j k : Nat} {f : Addr} {fd : FuncData} {ps : List Str} {mf : MF} (F : FnG P w K mg base j f fd ps mf) (h : j ≤ k) : FnG P w K mg base k f fd ps mf :=
  ⟨F.len, fun A outer s H args us vs Q E hr => F.run A outer s H args us vs Q E (hr.mono h)⟩

/-! ### calls -/
def pickL {α : Type} (z : α) (plan : List Nat) (l : List α) : List α := plan.map fun i => l.getD i z
/-- how a call binds: n positional values, the keywords' values, the defaults its, put in the parameters' order by plan -/
def BindG (K : PySem.W.Frag) (fd : FuncData) (ps : List Str) (n : Nat) (ks : List Str) (plan : List Nat) (its : List Value) : Prop :=
  ∀ (s : Shared) (us ws : List Value), K.In s.heap → us.length = n → ws.length = ks.length → BindsTo s fd ⟨us, ks.zip ws⟩ (ps.zip (pickL .none plan (us ++ ws ++ its)))
def retC (e : En) : Rc → Rs D
  | .ok d μ => .ok d e μ
  | .ex x μ => .ex x e μ
  | .bad => .bad
/-- n positional values, m by keywords -/
def fCall (mf : MF) (plan : List Nat) (dd : List D) (n m : Nat) (ds zs : List D) : ME := fun e μ => match (Nat.beq ds.length n && Nat.beq zs.length m) && plains (ds ++ zs) with
  | true => retC e (mf (pickL .non plan (ds ++ zs ++ dd)) μ)
  | false => .bad
theorem RVs.pick {K : PySem.W.Frag} {W : Wd} {H : Hp} {ds : List D} {vs : List V} (h : RVs K W H ds vs) : ∀ plan : List Nat, RVs K W H (pickL .non plan ds) (pickL .non plan vs)
  | [] => rfl
  | i :: r => by
    refine ⟨_, _, rfl, ?_, RVs.pick h r⟩
    show RV K W H (ds.getD i .non) (vs.getD i .non)
    rw [List.getD_eq_getElem?_getD, List.getD_eq_getElem?_getD]
    cases z : ds[i]? with
    | none =>
      have : vs[i]? = none := List.getElem?_eq_none (by rw [RVs.length h]; exact List.getElem?_eq_none_iff.mp z)
      rw [this]
      exact rfl
    | some d =>
      obtain ⟨v, e1, e2⟩ := RVs.get h z
      rw [e1]
      exact e2
theorem vals_pick {vs : List V} {us : List Value} (h : Vals vs us) : ∀ plan : List Nat, Vals (pickL .non plan vs) (pickL .none plan us)
  | [] => .nil
  | i :: r => by
    refine .cons ?_ (vals_pick h r)
    show L2.RelV (vs.getD i .non) (us.getD i .none)
    rw [List.getD_eq_getElem?_getD, List.getD_eq_getElem?_getD]
    cases z : vs[i]? with
    | none =>
      have : us[i]? = none := List.getElem?_eq_none (by rw [← h.length]; exact List.getElem?_eq_none_iff.mp z)
      rw [this]
      exact rfl
    | some v =>
      obtain ⟨u, e1, e2⟩ := h.get z
      rw [e1]
      exact e2
section
variable {X : Cx} {Wx : WX} {k n : Nat} {f : Addr} {fd : FuncData} {ps ks : List Str} {mf : MF} {plan : List Nat} {its : List Value} {dd : List D} {dv : List V}
theorem run_fG {pins : List (Addr × Obj)} {σ : St} {H : Hp} {s : Shared} {Q : VK} {us ws : List Value} {vs zs : List V} (F : FnG X.prog X.w X.K X.mg X.base k f fd ps mf) (hr : Room k X.A) (hg : X.A.guards = some []) (tk : Takes X Wx)
    (hb : BindG X.K fd ps n ks plan its) (hd : Vals dv its) (hdd : ∀ W H, RVs X.K W H dd dv) (I : Inv X pins σ H s) (r : Vals vs us) (rz : Vals zs ws) {ds ys : List D}
    (h : ∃ W e μ, Rel X.K W H e σ μ ∧ RPs X.K σ W H ds vs ∧ RPs X.K σ W H ys zs ∧ Post X.K Wx (relV X.K) W H σ (fCall mf plan dd n ks.length ds ys e μ) Q) :
    wpAny (model X.prog X.w) X.A (call (.ref f) us (ks.zip ws)) (EP X pins σ Q) X.xe s := by
  obtain ⟨W, e, μ, rel, hv, hz, hP⟩ := h
  unfold fCall at hP
  cases c : (Nat.beq ds.length n && Nat.beq ys.length ks.length) && plains (ds ++ ys) with
  | false => rw [c] at hP; exact hP.elim
  | true =>
    rw [c] at hP
    replace hP : Post X.K Wx (relV X.K) W H σ (retC e (mf (pickL .non plan (ds ++ ys ++ dd)) μ)) Q := hP
    obtain ⟨c12, c3⟩ := Bool.and_eq_true_iff.mp c
    obtain ⟨c1, c2⟩ := Bool.and_eq_true_iff.mp c12
    have a1 : RVs X.K W H (ds ++ ys ++ dd) (vs ++ zs ++ dv) := RVs.append (RPs.vals (RPs.append hv hz) c3) (hdd W H)
    have a2 := RVs.pick a1 plan
    have a3 := vals_pick ((r.append rz).append hd) plan
    have l1 : us.length = n := by rw [← r.length, RPs.length hv, len_eq c1]
    have l2 : ws.length = ks.length := by rw [← rz.length, RPs.length hz, len_eq c2]
    have into := rel.into (P := fun _ => False) (fun _ z => z.elim) (fun _ z => z.elim) (fun _ z => z.elim)
    refine wpAny_call (codeAny_mono (F.run X.A X.stack s H ⟨us, ks.zip ws⟩ _ _ Q (WE Wx σ) hr hg I.env0 (hb s us ws I.kIn l1 l2) a3 ⟨_, _, μ, into, RVs.cong (W := W) (W' := W.more fun a => Ev.ownA e σ a ∨ False) rfl rfl _ _ a2, ?_⟩) fun r s' hq => ?_)
    · cases z : mf (pickL .non plan (ds ++ ys ++ dd)) μ with
      | ok d μ1 =>
        rw [z] at hP
        exact fun W1 H1 v x1 r1 q => hP (W1.gr W.G) H1 v x1.less (rel.back x1 r1) (RP.of (RV.cong (W := W1) (W' := W1.gr W.G) rfl rfl _ _ q))
      | ex x' μ1 =>
        rw [z] at hP
        exact fun W1 H1 cls d x1 r1 q => hP (W1.gr W.G) H1 cls d x1.less (rel.back x1 r1) (XR.cong (W := W1) (W' := W1.gr W.G) rfl rfl q)
      | bad => rw [z] at hP; exact hP.elim
    · cases r with
      | error e' => exact passAt tk σ pins H s e' s' I hq
      | ok fl =>
        cases fl with
        | ret u => exact I.after hq
        | next => exact hq.elim
        | brk => exact hq.elim
        | cont => exact hq.elim
variable {x : Str} {p pos : Pos} {e : Expr} {es : List Expr} {kws : List Keyword} {ma mk : Ma (List D)}
def mCall (mf : MF) (plan : List Nat) (dd : List D) (n : Nat) (ma : Ma (List D)) : ME := mBind ma fun ds => fCall mf plan dd n 0 ds []
def mCallK (mf : MF) (plan : List Nat) (dd : List D) (n m : Nat) (ma mk : Ma (List D)) : ME := mBind ma fun ds => mBind mk fun zs => fCall mf plan dd n m ds zs
def EK (X : Cx) (Wx : WX) (kws : List Keyword) (m : Ma (List D)) : Prop := PK X kws (TR X.K Wx (relVs X.K) m)
theorem PK.weak {kws : List Keyword} {t u : TA} (h : PK X kws t) (k : ∀ σ H Q, u σ H Q → t σ H Q) : PK X kws u := ⟨fun pos pins s σ H Q I q => h.run pos pins s σ H Q I (k σ H Q q)⟩
theorem ek_nil : EK X Wx [] aNil := PK.weak pk_nil fun σ H Q q => by
  obtain ⟨W, en, μ, r, p⟩ := q
  exact Post.ok p r (b := []) rfl
theorem ek_cons {m : ME} {ms : Ma (List D)} {nm : Option Str} {kpos : Pos} (he : EE X Wx e m) (hes : EK X Wx kws ms) : EK X Wx (⟨nm, e, kpos⟩ :: kws) (aCons m ms) :=
  PK.weak (pk_cons he hes) fun σ H Q q => by
    refine TR.two (relC := relVs X.K) (relB := relVs X.K) (f := fun d ds e μ => .ok (d :: ds) e μ) q fun W H e μ a b c d r z1 z2 p => ?_
    exact Post.ok p r (b := b :: d) ⟨b, d, rfl, z1, z2⟩
/-- f(e, ..) -/
theorem ee_call (F : FnG X.prog X.w X.K X.mg X.base k f fd ps mf) (hr : Room k X.A) (hgd : X.A.guards = some []) (tk : Takes X Wx) (hg : Gl X x) (hm : X.mg x = some (.ref f)) (hk : PySem.W.keepIn X.K (.ref f) = true) (hb : BindG X.K fd ps n [] plan its)
    (hd : Vals dv its) (hdd : ∀ W H, RVs X.K W H dd dv) (ha : EA X Wx (e :: es) ma) (hdb : (x == ("__debug__" : Str)) = false := by decide) (he : starEach (e :: es) X.env = (false, eval e X.env) :: starEach es X.env := by rfl)
    (hpl : (backTo pos (starEach es X.env)).any (·.1) = false := by rfl) : EE X Wx (.Call (.Name x p) (e :: es) [] pos) (mCall mf plan dd n ma) := by
  refine ⟨fun pins s σ H Q I h => ?_⟩
  refine wpAny_Call_Name_kw (ld_glob I hg hm ?_ hdb)
  refine PySem.W.callWith_K (h₀ := X.base) I.ok.mod.kin hk (thn (ha.run pos pins s σ H (fun vs H1 => ∃ W1 e1 μ1 ds, Rel X.K W1 H1 e1 σ μ1 ∧ RPs X.K σ W1 H1 ds vs ∧ Post X.K Wx (relV X.K) W1 H1 σ (fCall mf plan dd n 0 ds [] e1 μ1) Q) I (TR.one h fun W H e μ ds vs r z p => ⟨W, e, μ, ds, r, z, p⟩)) fun us s1 hh => ?_) he hpl
  obtain ⟨vs, H1, I1, rv, W1, e1, μ1, ds, r1, z1, p1⟩ := hh
  exact ⟨I1.kIn, run_fG (ks := []) (ws := []) (zs := []) (ys := []) F hr hgd tk hb hd hdd I1 rv .nil ⟨W1, e1, μ1, r1, z1, rfl, p1⟩⟩
/-- f(e, .., k = v, ..) -/
theorem ee_callK (F : FnG X.prog X.w X.K X.mg X.base k f fd ps mf) (hr : Room k X.A) (hgd : X.A.guards = some []) (tk : Takes X Wx) (hg : Gl X x) (hm : X.mg x = some (.ref f)) (hk : PySem.W.keepIn X.K (.ref f) = true) (hb : BindG X.K fd ps n ks plan its)
    (hd : Vals dv its) (hdd : ∀ W H, RVs X.K W H dd dv) (ha : EA X Wx (e :: es) ma) (hkw : EK X Wx kws mk) (hall : (backToKw pos (keywordEach kws X.env)).all (·.1.isSome) = true := by rfl) (hks : (backToKw pos (keywordEach kws X.env)).filterMap (·.1) = ks := by rfl)
    (hdb : (x == ("__debug__" : Str)) = false := by decide) (he : starEach (e :: es) X.env = (false, eval e X.env) :: starEach es X.env := by rfl)
    (hpl : ((backTo pos (starEach (e :: es) X.env)).any (·.1) || (backToKw pos (keywordEach kws X.env)).any (·.1.isNone)) = false := by rfl) : EE X Wx (.Call (.Name x p) (e :: es) kws pos) (mCallK mf plan dd n ks.length ma mk) := by
  refine ⟨fun pins s σ H Q I h => ?_⟩
  refine wpAny_Call_Name_kw (ld_glob I hg hm ?_ hdb)
  refine PySem.W.callWith_KW (h₀ := X.base) I.ok.mod.kin hk hall (thn (ha.run pos pins s σ H (fun vs H1 => ∃ W1 e1 μ1 ds, Rel X.K W1 H1 e1 σ μ1 ∧ RPs X.K σ W1 H1 ds vs ∧ Post X.K Wx (relV X.K) W1 H1 σ ((mk e1 μ1).bind fun zs => fCall mf plan dd n ks.length ds zs) Q) I (TR.one h fun W H e μ ds vs r z p => ⟨W, e, μ, ds, r, z, p⟩)) fun us s1 hh => ?_) hpl he
  obtain ⟨vs, H1, I1, rv, W1, e1, μ1, ds, r1, z1, p1⟩ := hh
  refine thn (hkw.run pos pins s1 σ H1 (fun zs H2 => ∃ W2 e2 μ2 ys, Rel X.K W2 H2 e2 σ μ2 ∧ RPs X.K σ W2 H2 ds vs ∧ RPs X.K σ W2 H2 ys zs ∧ Post X.K Wx (relV X.K) W2 H2 σ (fCall mf plan dd n ks.length ds ys e2 μ2) Q) I1
    ⟨W1, e1, μ1, r1, (Post.bind p1).mono fun b H2 ⟨W2, ys, e2, μ2, r2, z2, x2, p2⟩ => ⟨W2, e2, μ2, ys, r2, z1.ext x2, z2, p2⟩⟩) fun ws s2 hh => ?_
  obtain ⟨zs, H2, I2, rz, W2, e2, μ2, ys, r2, z2, z3, p2⟩ := hh
  refine ⟨I2.kIn, ?_⟩
  rw [hks]
  exact run_fG F hr hgd tk hb hd hdd I2 rv rz ⟨W2, e2, μ2, r2, z2, z3, p2⟩
/-- f(k = v, ..) -/
theorem ee_callK0 (F : FnG X.prog X.w X.K X.mg X.base k f fd ps mf) (hr : Room k X.A) (hgd : X.A.guards = some []) (tk : Takes X Wx) (hg : Gl X x) (hm : X.mg x = some (.ref f)) (hk : PySem.W.keepIn X.K (.ref f) = true) (hb : BindG X.K fd ps 0 ks plan its)
    (hd : Vals dv its) (hdd : ∀ W H, RVs X.K W H dd dv) (hkw : EK X Wx kws mk) (hall : (backToKw pos (keywordEach kws X.env)).all (·.1.isSome) = true := by rfl) (hks : (backToKw pos (keywordEach kws X.env)).filterMap (·.1) = ks := by rfl)
    (hdb : (x == ("__debug__" : Str)) = false := by decide)
    (hpl : ((backTo pos (starEach [] X.env)).any (·.1) || (backToKw pos (keywordEach kws X.env)).any (·.1.isNone)) = false := by rfl) : EE X Wx (.Call (.Name x p) [] kws pos) (mCallK mf plan dd 0 ks.length aNil mk) := by
  refine ⟨fun pins s σ H Q I h => ?_⟩
  refine wpAny_Call_Name_kw (ld_glob I hg hm ?_ hdb)
  obtain ⟨W1, e1, μ1, r1, p1⟩ := h
  refine PySem.W.callWith_KW0 (h₀ := X.base) I.ok.mod.kin hk hall (thn (hkw.run pos pins s σ H (fun zs H2 => ∃ W2 e2 μ2 ys, Rel X.K W2 H2 e2 σ μ2 ∧ RPs X.K σ W2 H2 ys zs ∧ Post X.K Wx (relV X.K) W2 H2 σ (fCall mf plan dd 0 ks.length [] ys e2 μ2) Q) I
    ⟨W1, e1, μ1, r1, (Post.bind (show Post X.K Wx (relV X.K) W1 H σ ((mk e1 μ1).bind fun zs => fCall mf plan dd 0 ks.length [] zs) Q from p1)).mono fun b H2 ⟨W2, ys, e2, μ2, r2, z2, x2, p2⟩ => ⟨W2, e2, μ2, ys, r2, z2, p2⟩⟩) fun ws s2 hh => ?_) hpl
  obtain ⟨zs, H2, I2, rz, W2, e2, μ2, ys, r2, z3, p2⟩ := hh
  refine ⟨I2.kIn, ?_⟩
  rw [hks]
  exact run_fG (us := []) (vs := []) (ds := []) F hr hgd tk hb hd hdd I2 .nil rz ⟨W2, e2, μ2, r2, rfl, z3, p2⟩
/-- f() -/
theorem ee_call0 (F : FnG X.prog X.w X.K X.mg X.base k f fd ps mf) (hr : Room k X.A) (hgd : X.A.guards = some []) (tk : Takes X Wx) (hg : Gl X x) (hm : X.mg x = some (.ref f)) (hk : PySem.W.keepIn X.K (.ref f) = true) (hb : BindG X.K fd ps 0 [] plan its)
    (hd : Vals dv its) (hdd : ∀ W H, RVs X.K W H dd dv) (hdb : (x == ("__debug__" : Str)) = false := by decide) : EE X Wx (.Call (.Name x p) [] [] pos) (mCall mf plan dd 0 aNil) := by
  refine ⟨fun pins s σ H Q I h => ?_⟩
  refine wpAny_Call_Name_kw (ld_glob I hg hm ?_ hdb)
  obtain ⟨W1, e1, μ1, r1, p1⟩ := h
  exact PySem.W.callWith_K0 I.kIn hk (run_fG (us := []) (vs := []) (ks := []) (ws := []) (zs := []) (ds := []) (ys := []) F hr hgd tk hb hd hdd I .nil .nil ⟨W1, e1, μ1, r1, rfl, rfl, p1⟩)
end
/-- binding, where no parameter has a default -/
theorem FunD.bindG {K : PySem.W.Frag} {x qual : Str} {params : Arguments} {body : List Stmt} {scope : Scope} {kws : List (Str × V)} {f : Addr} {fd : FuncData} {ps : List Str} (F : FunD K x qual params body scope [] kws f fd) (n : Nat) (ks : List Str) (plan : List Nat)
    (h : ∀ (kV doc pm : Value) (an : Option Addr) (cdv ct : Value) (us ws : List Value), us.length = n → ws.length = ks.length → bindArgs (PySem.W.fnOf x qual params body scope .none kV doc pm an cdv ct) ⟨us, ks.zip ws⟩ = pure (ps.zip (pickL .none plan (us ++ ws ++ [])))) :
    BindG K fd ps n ks plan [] := by
  obtain ⟨oc, od, dV, kV, doc, pm, an, cdv, ct, osl, rfl, lk, hcd, hD, hK⟩ := F.ex
  rcases hD with ⟨_, rfl⟩ | ⟨e, _⟩
  · exact fun s us ws _ h1 h2 => .of_eq (h kV doc pm an cdv ct us ws h1 h2)
  · exact absurd rfl e
end Ev

set_option maxRecDepth 100000
set_option maxHeartbeats 4000000
/-! Ev8: comprehensions. -/
namespace Ev
open PySem PySem.Spec PyProof.Rows L2
variable [PWo]

/-! ### slots that are a block's own -/
def wipeE (e : En) : List Nat → En
  | [] => e
  | v :: vs => (wipeE e vs).set v .no
/-- the outer slots come back -/
def restE (e0 e1 : En) : List Nat → En
  | [] => e1
  | v :: vs => (restE e0 e1 vs).set v (match e0[v]? with
    | some (.val d) => .val d
    | _ => .no)
theorem wipeE_length (e : En) : ∀ vs : List Nat, (wipeE e vs).length = e.length
  | [] => rfl
  | v :: vs => by unfold wipeE; rw [List.length_set, wipeE_length e vs]
theorem restE_length (e0 e : En) : ∀ vs : List Nat, (restE e0 e vs).length = e.length
  | [] => rfl
  | v :: vs => by unfold restE; rw [List.length_set, restE_length e0 e vs]
theorem wipeE_get {e : En} {i : Nat} {l : LV} : ∀ {vs : List Nat}, (wipeE e vs)[i]? = some l → (i ∉ vs ∧ e[i]? = some l) ∨ l = .no
  | [], h => .inl ⟨by simp, h⟩
  | v :: vs, h => by
    unfold wipeE at h
    rcases get_set h with ⟨_, e1⟩ | ⟨ne, e1⟩
    · exact .inr e1
    · rcases wipeE_get e1 with ⟨h1, h2⟩ | h1
      · exact .inl ⟨by simp only [List.mem_cons, not_or]; exact ⟨fun z => ne z.symm, h1⟩, h2⟩
      · exact .inr h1
theorem restE_get {e0 e : En} {i : Nat} {l : LV} : ∀ {vs : List Nat}, (restE e0 e vs)[i]? = some l → (i ∉ vs ∧ e[i]? = some l) ∨ l = .no ∨ ∃ d, l = .val d ∧ e0[i]? = some (.val d)
  | [], h => .inl ⟨by simp, h⟩
  | v :: vs, h => by
    unfold restE at h
    rcases get_set h with ⟨rfl, e1⟩ | ⟨ne, e1⟩
    · cases z : e0[v]? with
      | none => rw [z] at e1; exact .inr (.inl e1)
      | some q =>
        rw [z] at e1
        cases q with
        | val d => exact .inr (.inr ⟨d, e1, rfl⟩)
        | no => exact .inr (.inl e1)
        | own o => exact .inr (.inl e1)
    · rcases restE_get e1 with ⟨h1, h2⟩ | h1
      · exact .inl ⟨by simp only [List.mem_cons, not_or]; exact ⟨fun z => ne z.symm, h1⟩, h2⟩
      · exact .inr h1
theorem wipe_set {σ : St} {i : Nat} {v : Option V} {vs : List Nat} (h : i ∈ vs) : wipe (σ.set i v) vs = wipe σ vs := by
  induction vs with
  | nil => cases h
  | cons w ws ih =>
    unfold wipe
    by_cases hw : i ∈ ws
    · rw [ih hw]
    · have e : w = i := by
        rcases List.mem_cons.mp h with z | z
        · exact z.symm
        · exact absurd z hw
      subst e
      have go : ∀ us : List Nat, w ∉ us → (wipe (σ.set w v) us) = (wipe σ us).set w v := by
        intro us
        induction us with
        | nil => intro _; rfl
        | cons u us ih2 =>
          intro hu
          have h1 : w ≠ u := fun z => hu (by rw [z]; exact List.mem_cons_self)
          have h2 : w ∉ us := fun z => hu (List.mem_cons_of_mem _ z)
          show (wipe (σ.set w v) us).set u none = ((wipe σ us).set u none).set w v
          rw [ih2 h2, List.set_comm _ _ h1]
      rw [go ws hw, List.set_set]
theorem wipe_wipe (σ : St) (vs : List Nat) : wipe (wipe σ vs) vs = wipe σ vs := by
  apply List.ext_getElem?
  intro i
  by_cases h : i ∈ vs
  · have key : ∀ (τ : St) (us : List Nat), i ∈ us → τ.length = σ.length → (wipe τ us)[i]? = if i < σ.length then some none else none := by
      intro τ us
      induction us with
      | nil => intro z _; cases z
      | cons u us ih =>
        intro z hl
        show ((wipe τ us).set u none)[i]? = _
        by_cases e : u = i
        · subst e
          by_cases hi : u < σ.length
          · rw [List.getElem?_set_self (by rw [wipe_length, hl]; exact hi), if_pos hi]
          · rw [List.getElem?_eq_none (by rw [List.length_set, wipe_length, hl]; omega), if_neg hi]
        · rw [List.getElem?_set_ne e]
          exact ih (by rcases List.mem_cons.mp z with q | q; exact absurd q.symm e; exact q) hl
    rw [key (wipe σ vs) vs h (wipe_length σ vs), key σ vs h rfl]
  · rw [wipe_out h]
section
variable {K : PySem.W.Frag} {W W0 W1 W2 : Wd} {H H0 H1 H2 : Hp} {e e0 e1 : En} {σ σ1 : St} {μ μ1 : Mu} {vs : List Nat} {a : Addr} {o : O}
theorem Rel.wipe (r : Rel K W H e σ μ) : Rel K W H (wipeE e vs) (L2.wipe σ vs) μ := by
  have own' : ∀ {i : Nat}, isOwn (wipeE e vs) i → isOwn e i ∧ (L2.wipe σ vs)[i]? = σ[i]? := fun {i} ⟨o, h⟩ => by
    rcases wipeE_get h with ⟨h1, h2⟩ | h1
    · exact ⟨⟨o, h2⟩, wipe_out h1⟩
    · cases h1
  refine ⟨r.st, by rw [wipeE_length, L2.wipe_length]; exact r.len, fun i d h => ?_, fun i o h => ?_, fun i j a hi hj h1 h2 => ?_⟩
  · rcases wipeE_get h with ⟨h1, h2⟩ | h1
    · rw [wipe_out h1]
      exact r.val i d h2
    · cases h1
  · rcases wipeE_get h with ⟨h1, h2⟩ | h1
    · rw [wipe_out h1]
      exact r.own i o h2
    · cases h1
  · obtain ⟨g1, g2⟩ := own' hi
    obtain ⟨g3, g4⟩ := own' hj
    rw [g2] at h1
    rw [g4] at h2
    exact r.apart i j a g1 g3 h1 h2
theorem Fresh.wipe (f : Fresh K σ e W H o a) : Fresh K (L2.wipe σ vs) (wipeE e vs) W H o a := by
  obtain ⟨f1, f2, f3, f4, f5⟩ := f
  refine ⟨f1, f2, f3, f4, fun i ⟨u, h⟩ z => ?_⟩
  rcases wipeE_get h with ⟨h1, h2⟩ | h1
  · rw [wipe_out h1] at z
    exact f5 i ⟨u, h2⟩ z
  · cases h1
theorem Rel.rest (r0 : Rel K W0 H0 e0 σ μ) (x : Ext W0 H0 W1 H1) (r : Rel K W1 H1 e1 (L2.wipe σ vs) μ1) : Rel K W1 H1 (restE e0 e1 vs) σ μ1 := by
  have own' : ∀ {i : Nat}, isOwn (restE e0 e1 vs) i → isOwn e1 i ∧ (L2.wipe σ vs)[i]? = σ[i]? := fun {i} ⟨o, h⟩ => by
    rcases restE_get h with ⟨h1, h2⟩ | h1 | ⟨d, h1, _⟩
    · exact ⟨⟨o, h2⟩, wipe_out h1⟩
    · cases h1
    · cases h1
  refine ⟨r.st, by rw [restE_length, r.len, L2.wipe_length], fun i d h => ?_, fun i o h => ?_, fun i j a hi hj h1 h2 => ?_⟩
  · rcases restE_get h with ⟨h1, h2⟩ | h1 | ⟨d', h1, h2⟩
    · rw [← wipe_out (σ := σ) h1]
      exact r.val i d h2
    · cases h1
    · cases h1
      obtain ⟨v, g1, g2⟩ := r0.val i d h2
      exact ⟨v, g1, RV.ext x _ _ g2⟩
  · rcases restE_get h with ⟨h1, h2⟩ | h1 | ⟨d', h1, h2⟩
    · rw [← wipe_out (σ := σ) h1]
      exact r.own i o h2
    · cases h1
    · cases h1
  · obtain ⟨g1, g2⟩ := own' hi
    obtain ⟨g3, g4⟩ := own' hj
    rw [← g2] at h1
    rw [← g4] at h2
    exact r.apart i j a g1 g3 h1 h2
theorem Fresh.rest (f : Fresh K (L2.wipe σ vs) e1 W H o a) : Fresh K σ (restE e0 e1 vs) W H o a := by
  obtain ⟨f1, f2, f3, f4, f5⟩ := f
  refine ⟨f1, f2, f3, f4, fun i ⟨u, h⟩ z => ?_⟩
  rcases restE_get h with ⟨h1, h2⟩ | h1 | ⟨d', h1, h2⟩
  · rw [← wipe_out (σ := σ) h1] at z
    exact f5 i ⟨u, h2⟩ z
  · cases h1
  · cases h1
/-- what is fresh is guarded for a while -/
theorem Rel.guard (r : Rel K W H e σ μ) (f : Fresh K σ e W H o a) : Rel K (W.more fun b => b = a) H e σ μ := by
  obtain ⟨f1, f2, f3, f4, f5⟩ := f
  refine ⟨r.st.more (fun b z => z ▸ f2) (fun b z => z ▸ f4) (fun b z => z ▸ f1.nn), r.len, fun i d h => ?_, fun i o h => ?_, r.apart⟩
  · obtain ⟨v, g1, g2⟩ := r.val i d h
    exact ⟨v, g1, RV.cong (W := W) (W' := W.more fun b => b = a) rfl rfl _ _ g2⟩
  · obtain ⟨b, g1, g2, g3, g4, g5⟩ := r.own i o h
    refine ⟨b, g1, RO.cong (W := W) (W' := W.more fun b => b = a) rfl rfl g2, g3, fun z => ?_, g5⟩
    rcases z with z | z
    · exact g4 z
    · exact f5 i ⟨o, h⟩ (z ▸ g1)
theorem Rel.gr {G : Addr → Prop} (r : Rel K W H e σ μ) (h : ∀ b, G b → W.G b) : Rel K (W.gr G) H e σ μ := by
  refine ⟨r.st.less h, r.len, fun i d z => ?_, fun i o z => ?_, r.apart⟩
  · obtain ⟨v, g1, g2⟩ := r.val i d z
    exact ⟨v, g1, RV.cong (W := W) (W' := W.gr G) rfl rfl _ _ g2⟩
  · obtain ⟨b, g1, g2, g3, g4, g5⟩ := r.own i o z
    exact ⟨b, g1, RO.cong (W := W) (W' := W.gr G) rfl rfl g2, g3, fun q => g4 (h b q), g5⟩
/-- .. and is fresh again -/
theorem Fresh.back (f : Fresh K σ e W H o a) (x : Ext (W.more fun b => b = a) H W1 H1) (r : Rel K W1 H1 e1 σ1 μ1) : Ext W H (W1.gr W.G) H1 ∧ Rel K (W1.gr W.G) H1 e1 σ1 μ1 ∧ Fresh K σ1 e1 (W1.gr W.G) H1 o a := by
  have y : Ext W H (W1.gr W.G) H1 := x.less
  have g : W1.G a := (x.G a).mpr (.inr rfl)
  refine ⟨y, r.gr fun b z => (x.G b).mpr (.inl z), f.1.ext y (x.kG a (.inr rfl)), fun z => r.st.fg a z g, f.2.2.1, fun z => (r.st.nF a z).2 g, fun i ⟨u, hu⟩ z => ?_⟩
  obtain ⟨b, g1, g2, g3, g4, g5⟩ := r.own i u hu
  rw [z] at g1
  cases g1
  exact g4 g
/-- what is fresh is changed -/
theorem Rel.putF {ho : HO} {o' : O} (r : Rel K W H e σ μ) (f : Fresh K σ e W H o a) (hn : NoTup (H a)) (new : RO K W (upd H a ho) o' a) : Ext W H W (upd H a ho) ∧ Rel K W (upd H a ho) e σ μ ∧ Fresh K σ e W (upd H a ho) o' a := by
  obtain ⟨f1, f2, f3, f4, f5⟩ := f
  have x : Ext W H W (upd H a ho) := Ext.write f2 f3 hn
  refine ⟨x, ⟨⟨r.st.len, fun n o b h1 h2 => (r.st.obj n o b h1 h2).ext x (upd_ne fun z => f4 (z ▸ List.mem_of_getElem? h2)), r.st.nF, r.st.nd, r.st.fg, fun b z => ?_⟩, r.len, fun i d z => ?_, fun i o z => ?_, r.apart⟩, new, f2, f3, f4, f5⟩
  · by_cases e : b = a
    · rw [e, upd_same]
      exact fun z => nomatch z
    · rw [upd_ne e]
      exact r.st.tr b z
  · obtain ⟨v, g1, g2⟩ := r.val i d z
    exact ⟨v, g1, RV.ext x _ _ g2⟩
  · obtain ⟨b, g1, g2, g3, g4, g5⟩ := r.own i o z
    refine ⟨b, g1, g2.ext x (upd_ne fun q => ?_), g3, g4, g5⟩
    exact f5 i ⟨o, z⟩ (q ▸ g1)
end

/-! ### targets of a block -/
def TGqW (K : PySem.W.Frag) (Wx : WX) (vs : List Nat) (f : Tg) : TG := fun v σ H Q => ∃ W d e μ, Rel K W H e σ μ ∧ RP K σ W H d v ∧ PostG K Wx W H (f d e μ) fun σ2 H2 => wipe σ2 vs = wipe σ vs → Q σ2 H2
def EGW (X : Cx) (Wx : WX) (vs : List Nat) (tg : Expr) (f : Tg) : Prop := PG X tg (TGqW X.K Wx vs f)
def TGqsW (K : PySem.W.Frag) (Wx : WX) (vs : List Nat) (f : Tgs) : TGs := fun ws σ H Q => ∃ W ds e μ, Rel K W H e σ μ ∧ RVs K W H ds ws ∧ PostG K Wx W H (f ds e μ) fun σ2 H2 => wipe σ2 vs = wipe σ vs → Q σ2 H2
def EGsW (X : Cx) (Wx : WX) (vs : List Nat) (ts : List Expr) (f : Tgs) : Prop := PGs X ts (TGqsW X.K Wx vs f)
section
variable {X : Cx} {Wx : WX} {i : Nat} {x : Str} {pos : Pos} {vs : List Nat}
theorem ew_name (hN : X.N.Nodup) (hi : X.N[i]? = some x) (hx : Loc X.env.scope x) (hv : i ∈ vs) (hf : X.fn x = true ∨ X.env.scope.names.lookup x = some .local := by first | exact .inl rfl | exact .inr rfl | assumption) : EGW X Wx vs (.Name x pos) (gSet i) :=
  PG.weak (pg_name hN hi hx hf) fun v σ H Q q => by
    obtain ⟨W, d, e, μ, r, z, p⟩ := q
    unfold gSet at p
    cases c : d.plain with
    | false => rw [c] at p; exact p.elim
    | true =>
      rw [c] at p
      exact p W H _ Ext.refl (r.setVal (z.val c)) (wipe_set hv)
theorem ews_nil : EGsW X Wx vs [] gNone := PGs.weak pgs_nil fun ws σ H Q q => by
  obtain ⟨W, ds, e, μ, r, z, p⟩ := q
  cases ds with
  | nil => exact ⟨z, p W H σ Ext.refl r rfl⟩
  | cons d ds => exact p.elim
theorem ews_cons {e : Expr} {es : List Expr} {f : Tg} {g : Tgs} (h1 : EGW X Wx vs e f) (h2 : EGsW X Wx vs es g) (hs : (assignEach (e :: es) X.env).map (·.2) = assign e X.env :: (assignEach es X.env).map (·.2) := by rfl) : EGsW X Wx vs (e :: es) (gMore f g) :=
  PGs.weak (pgs_cons h1 h2 hs) fun ws σ H Q q => by
    obtain ⟨W, ds, e, μ, r, z, p⟩ := q
    cases ds with
    | nil => exact p.elim
    | cons d ds =>
      obtain ⟨v, vr, ev, z1, z2⟩ := z
      refine ⟨v, vr, ev, W, d, e, μ, r, RP.of z1, (PostG.bind p).mono fun σ1 H1 ⟨W1, e1, μ1, r1, x1, p1⟩ => fun w1 => ?_⟩
      exact ⟨W1, ds, e1, μ1, r1, RVs.ext x1 _ _ z2, p1.mono fun σ2 H2 k w2 => k (w2.trans w1)⟩
theorem ew_tup {es : List Expr} {k n : Nat} {f : Tgs} (hc : X.calm = true) (h : EGsW X Wx vs es f) (hn : (assignEach es X.env).length = n := by rfl) (hst : (assignEach es X.env).findIdx? (·.1) = none := by rfl) : EGW X Wx vs (.Tuple es k pos) (gTupl n f) :=
  PG.weak (pg_tup hc h hn hst) fun v σ H Q q => by
    obtain ⟨W, d, e, μ, r, z, p⟩ := q
    unfold gTupl at p
    cases hd : tupI d with
    | none => rw [hd] at p; exact p.elim
    | some ds =>
      rw [hd] at p
      obtain ⟨a, ws, rfl, z1, z2⟩ := tupI_ok z hd
      have p' : PostG X.K Wx W H (match Nat.beq ds.length n with | true => f ds e μ | false => .bad) fun σ2 H2 => wipe σ2 vs = wipe σ vs → Q σ2 H2 := p
      cases c : Nat.beq ds.length n with
      | false => rw [c] at p'; exact p'.elim
      | true =>
        rw [c] at p'
        exact ⟨a, ws, rfl, z1.sq, (RVs.length z2).trans (Nat.eq_of_beq_eq_true c), W, ds, e, μ, r, z2, p'⟩
end

/-! ### tests of a block -/
def ETs (X : Cx) (Wx : WX) (ifs : List Expr) (m : Ma Bool) : Prop := PTs X ifs (TR X.K Wx relB m)
def mYes : Ma Bool := fun e μ => .ok true e μ
section
variable {X : Cx} {Wx : WX}
theorem PTs.weak {es : List Expr} {t u : TT} (h : PTs X es t) (k : ∀ σ H Q, u σ H Q → t σ H Q) : PTs X es u := ⟨fun pins s σ H Q I q => h.run pins s σ H Q I (k σ H Q q)⟩
theorem ets_nil : ETs X Wx [] mYes := PTs.weak pts_nil fun σ H Q q => by
  obtain ⟨W, e, μ, r, p⟩ := q
  exact Post.ok p r rfl
theorem ets_one {c : Expr} {m : Ma Bool} (h : ET X Wx c m) : ETs X Wx [c] m := pts_one h
end

/-! ### [elt for tg in iter if ..] -/
def lcL (vs : List Nat) (g : Tg) (t : Ma Bool) (m : ME) : List D → Ma (List D)
  | [] => fun e μ => .ok [] e μ
  | d :: ds => fun e μ => match g d e μ with
    | .ok _ e μ => (match t e μ with
      | .ok true e μ => (match m e μ with
        | .ok y e μ => (match y.plain with
          | true => (match lcL vs g t m ds (wipeE e vs) μ with
            | .ok r e μ => .ok (y :: r) e μ
            | _ => .bad)
          | false => .bad)
        | _ => .bad)
      | .ok false e μ => lcL vs g t m ds (wipeE e vs) μ
      | _ => .bad)
    | _ => .bad
def lcEnd (e0 : En) (vs : List Nat) (r : Rs (List D)) : Rs O := match r with
  | .ok ys e μ => (match lineB ys.length with
    | true => .ok (.lst ys) (restE e0 e vs) μ
    | false => .bad)
  | _ => .bad
def mLc (mi : Ma (List D)) (vs : List Nat) (g : Tg) (t : Ma Bool) (m : ME) : Ma O := mBind mi fun ds e μ => lcEnd e vs (lcL vs g t m ds (wipeE e vs) μ)
abbrev noX : WX := fun _ _ _ _ => False
theorem lineB_lt {a b : List D} {y : D} (h : lineB (a ++ y :: b).length = true) : a.length < sizeLine := by
  have := lineB_ok h
  rw [List.length_append, List.length_cons] at this
  omega
section
variable {K : PySem.W.Frag} {Wx : WX} {σ : St} {H : Hp}
theorem RO.lst_at {W : Wd} {H : Hp} {xs : List D} {a : Addr} (h : RO K W H (.lst xs) a) : ∃ vs, H a = some (.lst vs) ∧ RVs K W H xs vs := h
theorem lc_imp {mi : Ma (List D)} {g : Tg} {t : Ma Bool} {m : ME} {vs : List Nat} {Q : VK} (q : TR K Wx (relO K) (mLc mi vs g t m) σ H Q) :
    tLc (fun σ H R => TR K Wx (relI K) mi σ H R) (TGqW K noX vs g) (TR K noX relB t) (TR K noX (relV K) m) vs σ H Q := by
  refine TR.one q fun W H1 e μ ds J r z p => ?_
  intro D hD
  cases hL : lcL vs g t m ds (wipeE e vs) μ with
  | bad => rw [hL] at p; exact p.elim
  | ex x e2 μ2 => rw [hL] at p; exact p.elim
  | ok ys e2 μ2 =>
    rw [hL] at p
    replace p : Post K Wx (relO K) W H1 σ (match lineB ys.length with | true => (.ok (.lst ys) (restE e e2 vs) μ2 : Rs O) | false => .bad) Q := p
    cases hline : lineB ys.length with
    | false => rw [hline] at p; exact p.elim
    | true =>
      rw [hline] at p
      have s0 : Same H1 (upd H1 D (.lst [])) := same_upd hD
      have f0 : Fresh K σ e W (upd H1 D (.lst [])) (.lst []) D := fresh_new r hD ⟨[], upd_same, rfl⟩
      have r0 := r.same s0
      have x0 : Ext W H1 W (upd H1 D (.lst [])) := Ext.same r.st s0
      let St' : Nat → Hp → Prop := fun i H' => ∃ W1 e1 μ1 acc rest, Ext W H1 W1 H' ∧ Rel K W1 H' e1 (wipe σ vs) μ1 ∧ Fresh K (wipe σ vs) e1 W1 H' (.lst acc) D ∧ lcL vs g t m (ds.drop i) e1 μ1 = .ok rest e2 μ2 ∧ acc ++ rest = ys
      refine ⟨fun i k H' => k = ds.length - i ∧ St' i H', ⟨_, rfl, W, wipeE e vs, μ, [], ys, x0, r0.wipe, f0.wipe, hL, rfl⟩, ?_⟩
      rintro i k H' ⟨rfl, W1, e1, μ1, acc, rest, x1, r1, f1, hL1, hys⟩
      obtain ⟨z1, z2⟩ := z i W1 H' x1.bare
      by_cases hi : i < ds.length
      · obtain ⟨go, yl⟩ := z1 hi
        refine .inr ⟨go, St' (i + 1), fun H2 h => ⟨ds.length - (i + 1), by omega, rfl, h⟩, fun x H2 hy => ?_⟩
        obtain ⟨s2, d, hd, hpl, hv⟩ := yl x H2 hy
        rw [drop_cons hd] at hL1
        simp only [lcL] at hL1
        have x2 : Ext W1 H' W1 H2 := Ext.same r1.st s2
        have r2 := r1.same s2
        have f2 : Fresh K (wipe σ vs) e1 W1 H2 (.lst acc) D := ⟨f1.1.ext x2 (same_at s2 f1.1.nn), f1.2⟩
        refine ⟨W1.more fun b => b = D, d, e1, μ1, r2.guard f2, RP.of (RV.cong (W := W1) (W' := W1.more fun b => b = D) rfl rfl _ _ hv), ?_⟩
        cases hgd : g d e1 μ1 with
        | bad => rw [hgd] at hL1; cases hL1
        | ex x' e3 μ3 => rw [hgd] at hL1; cases hL1
        | ok u e3 μ3 =>
          rw [hgd] at hL1
          simp only at hL1
          intro W3 H3 σ3 x3 r3 hw
          have hw' : wipe σ3 vs = wipe σ vs := hw.trans (wipe_wipe σ vs)
          refine ⟨hw', W3, e3, μ3, r3, ?_⟩
          cases htd : t e3 μ3 with
          | bad => rw [htd] at hL1; cases hL1
          | ex x' e4 μ4 => rw [htd] at hL1; cases hL1
          | ok b e4 μ4 =>
            rw [htd] at hL1
            intro W4 H4 b' x4 r4 eb
            cases eb
            cases b with
            | false =>
              simp only at hL1
              rw [if_neg (by decide)]
              obtain ⟨y1, y2, y3⟩ := f2.back (x3.trans x4) r4
              exact ⟨_, wipeE e4 vs, μ4, acc, rest, (x1.trans x2).trans y1, hw' ▸ y2.wipe, hw' ▸ y3.wipe, hL1, hys⟩
            | true =>
              simp only at hL1
              rw [if_pos rfl]
              refine ⟨W4, e4, μ4, r4, ?_⟩
              cases hmd : m e4 μ4 with
              | bad => rw [hmd] at hL1; cases hL1
              | ex x' e5 μ5 => rw [hmd] at hL1; cases hL1
              | ok y e5 μ5 =>
                rw [hmd] at hL1
                simp only at hL1
                cases hpy : y.plain with
                | false => rw [hpy] at hL1; cases hL1
                | true =>
                  rw [hpy] at hL1
                  simp only at hL1
                  cases hLr : lcL vs g t m (ds.drop (i + 1)) (wipeE e5 vs) μ5 with
                  | bad => rw [hLr] at hL1; cases hL1
                  | ex x' e6 μ6 => rw [hLr] at hL1; cases hL1
                  | ok r' e6 μ6 =>
                    rw [hLr] at hL1
                    cases hL1
                    intro W5 H5 v x5 r5 hv5
                    have hv5' : RV K W5 H5 y v := RP.val hv5 hpy
                    obtain ⟨y1, y2, y3⟩ := f2.back ((x3.trans x4).trans x5) r5
                    obtain ⟨accV, q1, q2⟩ := RO.lst_at y3.1
                    have hlen : accV.length < sizeLine := by
                      rw [RVs.length q2]
                      exact lineB_lt (b := r') (y := y) (by rw [hys]; exact hline)
                    refine ⟨accV, q1, hlen, ?_⟩
                    have hv6 : RV K (W5.gr W1.G) H5 y v := RV.cong (W := W5) (W' := W5.gr W1.G) rfl rfl _ _ hv5'
                    have nt : NoTup (H5 D) := by rw [q1]; trivial
                    have x6 : Ext (W5.gr W1.G) H5 (W5.gr W1.G) (upd H5 D (.lst (accV ++ [v]))) := Ext.write y3.2.1 y3.2.2.1 nt
                    obtain ⟨g1, g2, g3⟩ := y2.putF (o' := .lst (acc ++ [y])) (ho := .lst (accV ++ [v])) y3 nt ⟨_, upd_same, RVs.append (RVs.ext x6 _ _ q2) ⟨v, [], rfl, RV.ext x6 _ _ hv6, rfl⟩⟩
                    exact ⟨_, wipeE e5 vs, μ5, acc ++ [y], r', ((x1.trans x2).trans y1).trans g1, hw' ▸ g2.wipe, hw' ▸ g3.wipe, hLr, by rw [← hys, List.append_assoc]; rfl⟩
      · have hn : ds.drop i = [] := List.drop_eq_nil_of_le (by omega)
        rw [hn] at hL1
        cases hL1
        rw [List.append_nil] at hys
        subst hys
        exact .inl ⟨z2 (by omega), p W1 H' (.ref D) x1 (r.rest x1 r1) ⟨D, rfl, f1.rest⟩⟩
/-! ### two clauses -/
def lcO (vs vs1 : List Nat) (g : Tg) (t : Ma Bool) (mi1 : Ma (List D)) (g1 : Tg) (t1 : Ma Bool) (m : ME) : List D → Ma (List D)
  | [] => fun e μ => .ok [] e μ
  | d :: ds => fun e μ => match g d e μ with
    | .ok _ e μ => (match t e μ with
      | .ok true e μ => (match mi1 e μ with
        | .ok es e μ => (match lcL vs1 g1 t1 m es (wipeE e vs1) μ with
          | .ok r1 e μ => (match lcO vs vs1 g t mi1 g1 t1 m ds (wipeE e vs) μ with
            | .ok r e μ => .ok (r1 ++ r) e μ
            | _ => .bad)
          | _ => .bad)
        | _ => .bad)
      | .ok false e μ => lcO vs vs1 g t mi1 g1 t1 m ds (wipeE e vs) μ
      | _ => .bad)
    | _ => .bad
def mLc2 (mi : Ma (List D)) (vs vs1 : List Nat) (g : Tg) (t : Ma Bool) (mi1 : Ma (List D)) (g1 : Tg) (t1 : Ma Bool) (m : ME) : Ma O := mBind mi fun ds e μ => lcEnd e vs (lcO vs vs1 g t mi1 g1 t1 m ds (wipeE e vs) μ)
theorem wipe_sub {σ τ : St} {vs vs1 : List Nat} (hv : ∀ i ∈ vs1, i ∈ vs) (h : wipe σ vs1 = wipe τ vs1) : wipe σ vs = wipe τ vs := by
  have key : ∀ (ρ : St) (us : List Nat), (∀ i ∈ us, i ∈ vs) → wipe (wipe ρ us) vs = wipe ρ vs := by
    intro ρ us
    induction us with
    | nil => intro _; rfl
    | cons u us ih =>
      intro hu
      show wipe ((wipe ρ us).set u none) vs = _
      rw [wipe_set (hu u List.mem_cons_self)]
      exact ih fun i hi => hu i (List.mem_cons_of_mem _ hi)
  rw [← key σ vs1 hv, h, key τ vs1 hv]
theorem lc2_imp {mi mi1 : Ma (List D)} {g g1 : Tg} {t t1 : Ma Bool} {m : ME} {vs vs1 : List Nat} {Q : VK} (hv : ∀ i ∈ vs1, i ∈ vs) (q : TR K Wx (relO K) (mLc2 mi vs vs1 g t mi1 g1 t1 m) σ H Q) :
    tLc2 (fun σ H R => TR K Wx (relI K) mi σ H R) (TGqW K noX vs g) (TR K noX relB t) (fun σ H R => TR K noX (relI K) mi1 σ H R) (TGqW K noX vs1 g1) (TR K noX relB t1) (TR K noX (relV K) m) vs vs1 σ H Q := by
  refine TR.one q fun W H1 e μ ds J r z p => ?_
  intro D hD
  cases hL : lcO vs vs1 g t mi1 g1 t1 m ds (wipeE e vs) μ with
  | bad => rw [hL] at p; exact p.elim
  | ex x e2 μ2 => rw [hL] at p; exact p.elim
  | ok ys e2 μ2 =>
    rw [hL] at p
    replace p : Post K Wx (relO K) W H1 σ (match lineB ys.length with | true => (.ok (.lst ys) (restE e e2 vs) μ2 : Rs O) | false => .bad) Q := p
    cases hline : lineB ys.length with
    | false => rw [hline] at p; exact p.elim
    | true =>
      rw [hline] at p
      have s0 : Same H1 (upd H1 D (.lst [])) := same_upd hD
      have f0 : Fresh K σ e W (upd H1 D (.lst [])) (.lst []) D := fresh_new r hD ⟨[], upd_same, rfl⟩
      have r0 := r.same s0
      have x0 : Ext W H1 W (upd H1 D (.lst [])) := Ext.same r.st s0
      let St' : Nat → Hp → Prop := fun i H' => ∃ W1 e1 μ1 acc rest, Ext W H1 W1 H' ∧ Rel K W1 H' e1 (wipe σ vs) μ1 ∧ Fresh K (wipe σ vs) e1 W1 H' (.lst acc) D ∧ lcO vs vs1 g t mi1 g1 t1 m (ds.drop i) e1 μ1 = .ok rest e2 μ2 ∧ acc ++ rest = ys
      refine ⟨fun i k H' => k = ds.length - i ∧ St' i H', ⟨_, rfl, W, wipeE e vs, μ, [], ys, x0, r0.wipe, f0.wipe, hL, rfl⟩, ?_⟩
      rintro i k H' ⟨rfl, W1, e1, μ1, acc, rest, x1, r1, f1, hL1, hys⟩
      obtain ⟨z1, z2⟩ := z i W1 H' x1.bare
      by_cases hi : i < ds.length
      · obtain ⟨go, yl⟩ := z1 hi
        refine .inr ⟨go, St' (i + 1), fun H2 h => ⟨ds.length - (i + 1), by omega, rfl, h⟩, fun x H2 hy => ?_⟩
        obtain ⟨s2, d, hd, hpl, hv0⟩ := yl x H2 hy
        rw [drop_cons hd] at hL1
        simp only [lcO] at hL1
        have x2 : Ext W1 H' W1 H2 := Ext.same r1.st s2
        have r2 := r1.same s2
        have f2 : Fresh K (wipe σ vs) e1 W1 H2 (.lst acc) D := ⟨f1.1.ext x2 (same_at s2 f1.1.nn), f1.2⟩
        refine ⟨W1.more fun b => b = D, d, e1, μ1, r2.guard f2, RP.of (RV.cong (W := W1) (W' := W1.more fun b => b = D) rfl rfl _ _ hv0), ?_⟩
        cases hgd : g d e1 μ1 with
        | bad => rw [hgd] at hL1; cases hL1
        | ex x' e3 μ3 => rw [hgd] at hL1; cases hL1
        | ok u e3 μ3 =>
          rw [hgd] at hL1
          simp only at hL1
          intro W3 H3 σ3 x3 r3 hw
          have hw' : wipe σ3 vs = wipe σ vs := hw.trans (wipe_wipe σ vs)
          refine ⟨hw', W3, e3, μ3, r3, ?_⟩
          cases htd : t e3 μ3 with
          | bad => rw [htd] at hL1; cases hL1
          | ex x' e4 μ4 => rw [htd] at hL1; cases hL1
          | ok b e4 μ4 =>
            rw [htd] at hL1
            intro W4 H4 b' x4 r4 eb
            cases eb
            cases b with
            | false =>
              simp only at hL1
              rw [if_neg (by decide)]
              obtain ⟨y1, y2, y3⟩ := f2.back (x3.trans x4) r4
              exact ⟨_, wipeE e4 vs, μ4, acc, rest, (x1.trans x2).trans y1, hw' ▸ y2.wipe, hw' ▸ y3.wipe, hL1, hys⟩
            | true =>
              simp only at hL1
              rw [if_pos rfl]
              refine ⟨W4, e4, μ4, r4, ?_⟩
              cases hmi : mi1 e4 μ4 with
              | bad => rw [hmi] at hL1; cases hL1
              | ex x' e5 μ5 => rw [hmi] at hL1; cases hL1
              | ok es e5 μ5 =>
                rw [hmi] at hL1
                simp only at hL1
                intro W5 H5 J1 x5 r5 zJ
                cases hLi : lcL vs1 g1 t1 m es (wipeE e5 vs1) μ5 with
                | bad => rw [hLi] at hL1; cases hL1
                | ex x' e6 μ6 => rw [hLi] at hL1; cases hL1
                | ok rr e6 μ6 =>
                  rw [hLi] at hL1
                  simp only at hL1
                  cases hLo : lcO vs vs1 g t mi1 g1 t1 m (ds.drop (i + 1)) (wipeE e6 vs) μ6 with
                  | bad => rw [hLo] at hL1; cases hL1
                  | ex x' e7 μ7 => rw [hLo] at hL1; cases hL1
                  | ok ro e7 μ7 =>
                    rw [hLo] at hL1
                    cases hL1
                    obtain ⟨y1, y2, y3⟩ := f2.back ((x3.trans x4).trans x5) r5
                    have xB : Ext W H1 (W5.gr W1.G) H5 := (x1.trans x2).trans y1
                    let St1 : Nat → Hp → Prop := fun j H' => ∃ W6 e8 μ8 acc8 rest8, Ext (W5.gr W1.G) H5 W6 H' ∧ Rel K W6 H' e8 (wipe σ3 vs1) μ8 ∧ Fresh K (wipe σ3 vs1) e8 W6 H' (.lst acc8) D ∧ lcL vs1 g1 t1 m (es.drop j) e8 μ8 = .ok rest8 e6 μ6 ∧ acc8 ++ rest8 = acc ++ rr
                    refine ⟨fun j k H' => k = es.length - j ∧ St1 j H', ⟨_, rfl, W5.gr W1.G, wipeE e5 vs1, μ5, acc, rr, Ext.refl, y2.wipe, y3.wipe, hLi, rfl⟩, ?_⟩
                    rintro j k H' ⟨rfl, W6, e8, μ8, acc8, rest8, x6, r6, f6, hL6, hys6⟩
                    have xJ : Ext W5.bare H5 W6.bare H' := ⟨x6.ph, x6.F, fun _ => Iff.rfl, x6.kF, x6.kL, fun _ h => h.elim, x6.tup, x6.frz, x6.kE⟩
                    obtain ⟨zj1, zj2⟩ := zJ j W6 H' xJ
                    by_cases hj : j < es.length
                    · obtain ⟨go1, yl1⟩ := zj1 hj
                      refine .inr ⟨go1, St1 (j + 1), fun H2 h => ⟨es.length - (j + 1), by omega, rfl, h⟩, fun xx H9 hyy => ?_⟩
                      obtain ⟨s9, dd, hdd, hpl9, hv9⟩ := yl1 xx H9 hyy
                      rw [drop_cons hdd] at hL6
                      simp only [lcL] at hL6
                      have x9 : Ext W6 H' W6 H9 := Ext.same r6.st s9
                      have r9 := r6.same s9
                      have f9 : Fresh K (wipe σ3 vs1) e8 W6 H9 (.lst acc8) D := ⟨f6.1.ext x9 (same_at s9 f6.1.nn), f6.2⟩
                      refine ⟨W6.more fun b => b = D, dd, e8, μ8, r9.guard f9, RP.of (RV.cong (W := W6) (W' := W6.more fun b => b = D) rfl rfl _ _ hv9), ?_⟩
                      cases hg1 : g1 dd e8 μ8 with
                      | bad => rw [hg1] at hL6; cases hL6
                      | ex x' e3 μ3 => rw [hg1] at hL6; cases hL6
                      | ok u ea μa =>
                        rw [hg1] at hL6
                        simp only at hL6
                        intro Wa Ha σa xa ra hwa
                        have hwa' : wipe σa vs1 = wipe σ3 vs1 := hwa.trans (wipe_wipe σ3 vs1)
                        refine ⟨hwa', Wa, ea, μa, ra, ?_⟩
                        cases ht1 : t1 ea μa with
                        | bad => rw [ht1] at hL6; cases hL6
                        | ex x' e4 μ4 => rw [ht1] at hL6; cases hL6
                        | ok b eb μb =>
                          rw [ht1] at hL6
                          intro Wb Hb b' xb rb ebb
                          cases ebb
                          cases b with
                          | false =>
                            simp only at hL6
                            rw [if_neg (by decide)]
                            obtain ⟨w1, w2, w3⟩ := f9.back (xa.trans xb) rb
                            exact ⟨_, wipeE eb vs1, μb, acc8, rest8, (x6.trans x9).trans w1, hwa' ▸ w2.wipe, hwa' ▸ w3.wipe, hL6, hys6⟩
                          | true =>
                            simp only at hL6
                            rw [if_pos rfl]
                            refine ⟨Wb, eb, μb, rb, ?_⟩
                            cases hmd : m eb μb with
                            | bad => rw [hmd] at hL6; cases hL6
                            | ex x' e5 μ5 => rw [hmd] at hL6; cases hL6
                            | ok y ec μc =>
                              rw [hmd] at hL6
                              simp only at hL6
                              cases hpy : y.plain with
                              | false => rw [hpy] at hL6; cases hL6
                              | true =>
                                rw [hpy] at hL6
                                simp only at hL6
                                cases hLr : lcL vs1 g1 t1 m (es.drop (j + 1)) (wipeE ec vs1) μc with
                                | bad => rw [hLr] at hL6; cases hL6
                                | ex x' e6 μ6 => rw [hLr] at hL6; cases hL6
                                | ok r' ed μd =>
                                  rw [hLr] at hL6
                                  cases hL6
                                  intro Wc Hc v xc rc hvc
                                  have hvc' : RV K Wc Hc y v := RP.val hvc hpy
                                  obtain ⟨w1, w2, w3⟩ := f9.back ((xa.trans xb).trans xc) rc
                                  obtain ⟨accV, q1, q2⟩ := RO.lst_at w3.1
                                  have hlen : accV.length < sizeLine := by
                                    rw [RVs.length q2]
                                    refine lineB_lt (b := r' ++ ro) (y := y) ?_
                                    have e1 : acc8 ++ y :: (r' ++ ro) = ys := by
                                      rw [← hys, ← List.append_assoc acc rr ro, ← hys6, List.append_assoc]; rfl
                                    rw [e1]; exact hline
                                  refine ⟨accV, q1, hlen, ?_⟩
                                  have hv6 : RV K (Wc.gr W6.G) Hc y v := RV.cong (W := Wc) (W' := Wc.gr W6.G) rfl rfl _ _ hvc'
                                  have nt : NoTup (Hc D) := by rw [q1]; trivial
                                  have xd : Ext (Wc.gr W6.G) Hc (Wc.gr W6.G) (upd Hc D (.lst (accV ++ [v]))) := Ext.write w3.2.1 w3.2.2.1 nt
                                  obtain ⟨g1', g2', g3'⟩ := w2.putF (o' := .lst (acc8 ++ [y])) (ho := .lst (accV ++ [v])) w3 nt ⟨_, upd_same, RVs.append (RVs.ext xd _ _ q2) ⟨v, [], rfl, RV.ext xd _ _ hv6, rfl⟩⟩
                                  exact ⟨_, wipeE ec vs1, μc, acc8 ++ [y], r', ((x6.trans x9).trans w1).trans g1', hwa' ▸ g2'.wipe, hwa' ▸ g3'.wipe, hLr, by rw [← hys6, List.append_assoc]; rfl⟩
                    · have hn : es.drop j = [] := List.drop_eq_nil_of_le (by omega)
                      rw [hn] at hL6
                      cases hL6
                      rw [List.append_nil] at hys6
                      subst hys6
                      have hwv : wipe (wipe σ3 vs1) vs = wipe σ vs := (wipe_sub hv (wipe_wipe σ3 vs1)).trans hw'
                      exact .inl ⟨zj2 (by omega), W6, wipeE e6 vs, μ6, acc ++ rr, ro, xB.trans x6, hwv ▸ r6.wipe, hwv ▸ f6.wipe, hLo, by rw [← hys, List.append_assoc]⟩
      · have hn : ds.drop i = [] := List.drop_eq_nil_of_le (by omega)
        rw [hn] at hL1
        cases hL1
        rw [List.append_nil] at hys
        subst hys
        exact .inl ⟨z2 (by omega), p W1 H' (.ref D) x1 (r.rest x1 r1) ⟨D, rfl, f1.rest⟩⟩
end
section
variable {X : Cx} {Wx : WX} {elt tg iter tg1 iter1 : Expr} {ifs ifs1 : List Expr} {scope : Scope} {own : List (Str × Nat)} {vs1 : List Nat} {pos py spos : Pos} {mi mi1 : Ma (List D)} {g g1 : Tg} {t t1 : Ma Bool} {m : ME} {i : Nat} {y : Str}
/-- what holds of every block of X with this scope -/
abbrev Blk (X : Cx) (scope : Scope) (P : Cx → Prop) : Prop := ∀ (s : Shared) (H : Hp) (C : Addr) (cl : List (Str × Addr)) (fp : List Addr), P (X.blk s H scope (compEnvC scope cl C X.env) fp)
theorem ef_lc (hc : X.calm = true) (hN : X.N.Nodup) (hi : EI X Wx tg iter mi) (ok : BlkOk X.N X.env.scope scope own) (hg : Blk X scope fun Y => EGW Y noX (own.map (·.2)) tg g) (ht : Blk X scope fun Y => ETs Y noX ifs t) (he : Blk X scope fun Y => EE Y noX elt m)
    (hs : ∀ x, foldedSetIterable iter X.env x = pure x := by intro _; rfl) : EF X Wx (.ListComp elt [⟨tg, iter, ifs, 0⟩] scope pos) (mLc mi (own.map (·.2)) g t m) :=
  PE.weak (pe_lc (g := TGqW X.K noX (own.map fun (p : Str × Nat) => p.2) g) (tt := TR X.K noX relB t) (te := TR X.K noX (relV X.K) m) hc hN hi ok hg ht he hs) fun σ H Q q => lc_imp q
theorem ps_lc (hc : X.calm = true) (hN : X.N.Nodup) (hy : X.N[i]? = some y) (hyl : X.env.scope.names.lookup y = some .local) (hsw : swapsWith (.ListComp elt [⟨tg, iter, ifs, 0⟩] scope pos) (some (.Name y py)) spos.line X.env = pure true) (hi : EI X Wx tg iter mi) (ok : BlkOk X.N X.env.scope scope own)
    (hg : Blk X scope fun Y => EGW Y noX (own.map (·.2)) tg g) (ht : Blk X scope fun Y => ETs Y noX ifs t) (he : Blk X scope fun Y => EE Y noX elt m) (hs : ∀ x, foldedSetIterable iter X.env x = pure x := by intro _; rfl) :
    ES X Wx (.Assign [.Name y py] (.ListComp elt [⟨tg, iter, ifs, 0⟩] scope pos) spos) (sOwn i (mLc mi (own.map (·.2)) g t m)) := es_own_of (ps_setLc (g := TGqW X.K noX (own.map fun (p : Str × Nat) => p.2) g) (tt := TR X.K noX relB t) (te := TR X.K noX (relV X.K) m) hc hN hy hyl hsw hi ok hg ht he hs) fun σ H Q q => lc_imp q
theorem ef_lc2 (hc : X.calm = true) (hN : X.N.Nodup) (hi : EI X Wx tg iter mi) (ok : BlkOk X.N X.env.scope scope own) (hv : ∀ i ∈ vs1, i ∈ own.map (·.2)) (hg : Blk X scope fun Y => EGW Y noX (own.map (·.2)) tg g) (ht : Blk X scope fun Y => ETs Y noX ifs t)
    (hi1 : Blk X scope fun Y => EI Y noX tg1 iter1 mi1) (hg1 : Blk X scope fun Y => EGW Y noX vs1 tg1 g1) (ht1 : Blk X scope fun Y => ETs Y noX ifs1 t1) (he : Blk X scope fun Y => EE Y noX elt m)
    (hs : ∀ x, foldedSetIterable iter X.env x = pure x := by intro _; rfl) (hs1 : ∀ env x, foldedSetIterable iter1 env x = pure x := by intro _ _; rfl) : EF X Wx (.ListComp elt [⟨tg, iter, ifs, 0⟩, ⟨tg1, iter1, ifs1, 0⟩] scope pos) (mLc2 mi (own.map (·.2)) vs1 g t mi1 g1 t1 m) :=
  PE.weak (pe_lc2 (g := TGqW X.K noX (own.map fun (p : Str × Nat) => p.2) g) (tt := TR X.K noX relB t) (wi1 := fun σ H R => TR X.K noX (relI X.K) mi1 σ H R) (g1 := TGqW X.K noX vs1 g1) (tt1 := TR X.K noX relB t1) (te := TR X.K noX (relV X.K) m) hc hN hi ok hv hg ht hi1 hg1 ht1 he hs hs1) fun σ H Q q => lc2_imp hv q
theorem ps_lc2 (hc : X.calm = true) (hN : X.N.Nodup) (hy : X.N[i]? = some y) (hyl : X.env.scope.names.lookup y = some .local) (hsw : swapsWith (.ListComp elt [⟨tg, iter, ifs, 0⟩, ⟨tg1, iter1, ifs1, 0⟩] scope pos) (some (.Name y py)) spos.line X.env = pure true) (hi : EI X Wx tg iter mi) (ok : BlkOk X.N X.env.scope scope own)
    (hv : ∀ i ∈ vs1, i ∈ own.map (·.2)) (hg : Blk X scope fun Y => EGW Y noX (own.map (·.2)) tg g) (ht : Blk X scope fun Y => ETs Y noX ifs t)
    (hi1 : Blk X scope fun Y => EI Y noX tg1 iter1 mi1) (hg1 : Blk X scope fun Y => EGW Y noX vs1 tg1 g1) (ht1 : Blk X scope fun Y => ETs Y noX ifs1 t1) (he : Blk X scope fun Y => EE Y noX elt m)
    (hs : ∀ x, foldedSetIterable iter X.env x = pure x := by intro _; rfl) (hs1 : ∀ env x, foldedSetIterable iter1 env x = pure x := by intro _ _; rfl) :
    ES X Wx (.Assign [.Name y py] (.ListComp elt [⟨tg, iter, ifs, 0⟩, ⟨tg1, iter1, ifs1, 0⟩] scope pos) spos) (sOwn i (mLc2 mi (own.map (·.2)) vs1 g t mi1 g1 t1 m)) := es_own_of (ps_setLc2 (g := TGqW X.K noX (own.map fun (p : Str × Nat) => p.2) g) (tt := TR X.K noX relB t) (wi1 := fun σ H R => TR X.K noX (relI X.K) mi1 σ H R) (g1 := TGqW X.K noX vs1 g1) (tt1 := TR X.K noX relB t1) (te := TR X.K noX (relV X.K) m) hc hN hy hyl hsw hi ok hv hg ht hi1 hg1 ht1 he hs hs1) fun σ H Q q => lc2_imp hv q
end
end Ev

set_option maxRecDepth 100000
set_option maxHeartbeats 4000000
/-! Ev9: several stores at once. -/
namespace Ev
open PySem PySem.Spec PyProof.Rows L2
variable [PWo]

def RLV (K : PySem.W.Frag) (σ : St) (e : En) (W : Wd) (H : Hp) : LV → V → Prop
  | .val d, v => RV K W H d v
  | .own o, v => ∃ a, v = .ref a ∧ Fresh K σ e W H o a
  | .no, _ => False
def isOw : LV → Bool
  | .own _ => true
  | _ => false
/-- what waits to be stored -/
def Pend (K : PySem.W.Frag) (σ : St) (e : En) (W : Wd) (H : Hp) : List LV → List V → Prop
  | [], vs => vs = []
  | l :: ls, vs => ∃ v r, vs = v :: r ∧ RLV K σ e W H l v ∧ (isOw l = true → ∀ (j : Nat) (l' : LV), ls[j]? = some l' → isOw l' = true → r[j]? ≠ some v) ∧ Pend K σ e W H ls r
abbrev relL (K : PySem.W.Frag) : Rr LV V := fun σ e W H l v => RLV K σ e W H l v
abbrev relP (K : PySem.W.Frag) : Rr (List LV) (List V) := fun σ e W H ls vs => Pend K σ e W H ls vs
def pV (m : ME) : Ma LV := mBind m fun d e μ => match d.plain with
  | true => .ok (.val d) e μ
  | false => .bad
def pO (m : Ma O) : Ma LV := mBind m fun o e μ => .ok (.own o) e μ
def pNil : Ma (List LV) := fun e μ => .ok [] e μ
def pCons (m : Ma LV) (ms : Ma (List LV)) : Ma (List LV) := mBind m fun l => mBind ms fun ls e μ => .ok (l :: ls) e μ
section
variable {K : PySem.W.Frag} {Wx : WX} {W W1 : Wd} {H H1 : Hp} {e e1 : En} {σ : St} {μ μ1 : Mu}
theorem Fresh.unguard {o : O} {a : Addr} {G : Addr → Prop} (h : ∀ b, G b → W.G b) (f : Fresh K σ e W H o a) : Fresh K σ e (W.gr G) H o a :=
  ⟨RO.cong (W := W) (W' := W.gr G) rfl rfl f.1, f.2.1, fun z => f.2.2.1 (h _ z), f.2.2.2.1, f.2.2.2.2⟩
theorem RLV.gr {G : Addr → Prop} (h : ∀ b, G b → W.G b) : ∀ {l : LV} {v : V}, RLV K σ e W H l v → RLV K σ e (W.gr G) H l v
  | .val d, v, z => RV.cong (W := W) (W' := W.gr G) rfl rfl d v z
  | .own o, v, ⟨a, e1, f⟩ => ⟨a, e1, f.unguard h⟩
theorem Pend.gr {G : Addr → Prop} (h : ∀ b, G b → W.G b) : ∀ {ls : List LV} {vs : List V}, Pend K σ e W H ls vs → Pend K σ e (W.gr G) H ls vs
  | [], _, z => z
  | _ :: _, _, ⟨v, r, e1, z, n, t⟩ => ⟨v, r, e1, z.gr h, n, Pend.gr h t⟩
/-- what waits, by places -/
theorem Pend.get : ∀ {ls : List LV} {vs : List V} {j : Nat} {l : LV}, Pend K σ e W H ls vs → ls[j]? = some l → ∃ v, vs[j]? = some v ∧ RLV K σ e W H l v
  | [], _, j, l, _, z => by simp at z
  | l0 :: ls, _, 0, l, ⟨v, r, e1, z, n, t⟩, q => by
    simp at q
    subst q e1
    exact ⟨v, rfl, z⟩
  | l0 :: ls, _, j + 1, l, ⟨v, r, e1, z, n, t⟩, q => by
    subst e1
    obtain ⟨w, h1, h2⟩ := Pend.get (j := j) t (by simpa using q)
    exact ⟨w, by simpa using h1, h2⟩
theorem pend_step {m : Ma LV} {ms : Ma (List LV)} {Q : List V → Hp → Prop} (q : TR K Wx (relP K) (pCons m ms) σ H Q) : TR K Wx (relL K) m σ H fun b H1 => TR K Wx (relP K) ms σ H1 fun bs H2 => Q (b :: bs) H2 := by
  refine TR.one q fun W H e μ l v r z p => ?_
  cases l with
  | no => exact z.elim
  | val d =>
    refine ⟨W, e, μ, r, (Post.bind p).mono fun bs H2 ⟨W2, ls, e2, μ2, r2, z2, x2, p2⟩ => ?_⟩
    exact Post.ok p2 r2 (b := v :: bs) ⟨v, bs, rfl, show RLV K σ e2 W2 H2 (.val d) v from RV.ext x2 _ _ z, (fun c => by cases c), z2⟩
  | own o =>
    obtain ⟨a, rfl, f⟩ := z
    refine ⟨W.more fun b => b = a, e, μ, r.guard f, ?_⟩
    cases hm : ms e μ with
    | bad => unfold mBind at p; rw [hm] at p; exact p.elim
    | ex x e2 μ2 =>
      unfold mBind at p
      rw [hm] at p
      intro W2 H2 cls d x2 r2 xr
      obtain ⟨y1, y2, y3⟩ := f.back x2 r2
      exact p (W2.gr W.G) H2 cls d y1 y2 (XR.cong (W := W2) (W' := W2.gr W.G) rfl rfl xr)
    | ok ls e2 μ2 =>
      unfold mBind at p
      rw [hm] at p
      intro W2 H2 bs x2 r2 z2
      obtain ⟨y1, y2, y3⟩ := f.back x2 r2
      have ga : W2.G a := (x2.G a).mpr (.inr rfl)
      have gr : ∀ b, W.G b → W2.G b := fun b hb => (x2.G b).mpr (.inl hb)
      refine p (W2.gr W.G) H2 (.ref a :: bs) y1 y2 ⟨.ref a, bs, rfl, ⟨a, rfl, y3⟩, fun _ j l' hj ho hb => ?_, Pend.gr gr z2⟩
      obtain ⟨v', h1, h2⟩ := Pend.get z2 hj
      cases l' with
      | no => cases ho
      | val d => cases ho
      | own o' =>
        obtain ⟨a', e1, f'⟩ := h2
        rw [hb] at h1
        cases h1
        cases e1
        exact f'.2.2.1 ga
/-- all stored -/
def setsE : En → List Nat → List LV → En
  | e, i :: is, l :: ls => setsE (e.set i l) is ls
  | e, _, _ => e
def setsV : St → List Nat → List V → St
  | σ, i :: is, v :: vs => setsV (σ.set i (some v)) is vs
  | σ, _, _ => σ
theorem Rel.setLV {i : Nat} : ∀ {l : LV} {v : V}, Rel K W H e σ μ → RLV K σ e W H l v → Rel K W H (e.set i l) (σ.set i (some v)) μ
  | .val d, v, r, z => r.setVal z
  | .own o, _, r, ⟨a, rfl, f⟩ => r.setOwn f
  | .no, _, _, z => z.elim
theorem fresh_set {i : Nat} {l : LV} {v : V} {o : O} {a : Addr} (f : Fresh K σ e W H o a) (h : isOw l = true → v ≠ .ref a) : Fresh K (σ.set i (some v)) (e.set i l) W H o a := by
  obtain ⟨f1, f2, f3, f4, f5⟩ := f
  refine ⟨f1, f2, f3, f4, fun j ⟨u, hu⟩ z => ?_⟩
  rcases get_set hu with ⟨rfl, e1⟩ | ⟨ne, e1⟩
  · rcases get_set z with ⟨_, e2⟩ | ⟨ne, _⟩
    · refine h (by rw [← e1]; rfl) ?_
      cases e2
      rfl
    · exact ne rfl
  · rw [List.getElem?_set_ne ne] at z
    exact f5 j ⟨u, e1⟩ z
theorem Pend.set {i : Nat} {l : LV} {v : V} : ∀ {ls : List LV} {vs : List V}, Pend K σ e W H ls vs → (isOw l = true → ∀ (j : Nat) (l' : LV), ls[j]? = some l' → isOw l' = true → vs[j]? ≠ some v) → Pend K (σ.set i (some v)) (e.set i l) W H ls vs
  | [], _, z, _ => z
  | l0 :: ls, _, ⟨w, r, e1, z, n, t⟩, k => by
    subst e1
    refine ⟨w, r, rfl, ?_, n, Pend.set t fun c j l' hj ho => ?_⟩
    · cases l0 with
      | no => exact z
      | val d => exact z
      | own o =>
        obtain ⟨a, rfl, f⟩ := z
        exact ⟨a, rfl, fresh_set f fun c e2 => k c 0 _ rfl rfl (by rw [e2]; rfl)⟩
    · have := k c (j + 1) l' (by simpa using hj) ho
      simpa using this
theorem Rel.setsLV : ∀ {ls : List LV} {vs : List V} (is : List Nat) {e : En} {σ : St}, Rel K W H e σ μ → Pend K σ e W H ls vs → Rel K W H (setsE e is ls) (setsV σ is vs) μ
  | [], _, is, e, σ, r, z => by
    rw [show _ = [] from z]
    cases is <;> exact r
  | l :: ls, _, [], e, σ, r, ⟨v, w, e1, z, n, t⟩ => by
    subst e1
    exact r
  | l :: ls, _, i :: is, e, σ, r, ⟨v, w, e1, z, n, t⟩ => by
    subst e1
    exact Rel.setsLV is (r.setLV z) (t.set n)
end
def EL (X : Cx) (Wx : WX) (e : Expr) (m : Ma LV) : Prop := PE X e (TR X.K Wx (relL X.K) m)
def ELs (X : Cx) (Wx : WX) (es : List Expr) (m : Ma (List LV)) : Prop := PA X es (TR X.K Wx (relP X.K) m)
def sPar (is : List Nat) (m : Ma (List LV)) : MS := sExp m fun ls e μ => .nx (setsE e is ls) μ
section
variable {X : Cx} {Wx : WX} {e : Expr} {es : List Expr} {m : ME} {mo : Ma O}
theorem el_v (h : EE X Wx e m) : EL X Wx e (pV m) := PE.weak h fun σ H Q q => TR.one q fun W H e μ d v r z p => by
  cases c : d.plain with
  | false => simp only [c] at p; exact p.elim
  | true =>
    simp only [c] at p
    exact Post.ok p r (z.val c)
theorem el_o (h : EF X Wx e mo) : EL X Wx e (pO mo) := PE.weak h fun σ H Q q => TR.one q fun W H e μ d v r z p => Post.ok p r z
theorem els_nil : ELs X Wx [] pNil := PA.weak pa_nil fun σ H Q q => by
  obtain ⟨W, en, μ, r, p⟩ := q
  exact Post.ok p r (b := []) rfl
theorem els_cons {ml : Ma LV} {ms : Ma (List LV)} (h1 : EL X Wx e ml) (h2 : ELs X Wx es ms) (hs : starEach (e :: es) X.env = (false, eval e X.env) :: starEach es X.env := by rfl) : ELs X Wx (e :: es) (pCons ml ms) :=
  PA.weak (pa_cons h1 h2 hs) fun σ H Q q => pend_step q
variable {i j l : Nat} {x y z : Str} {a b c : Expr} {px py pz pt pos : Pos} {kt k2 : Nat} {pt2 : Pos} {ms : Ma (List LV)}
theorem pend2 {K : PySem.W.Frag} {σ : St} {en : En} {W : Wd} {H : Hp} {ls : List LV} {vs : List V} (h : Pend K σ en W H ls vs) (n : vs.length = 2) : ∃ v w, vs = [v, w] := match vs, n with
  | [v, w], _ => ⟨v, w, rfl⟩
theorem pend3 {K : PySem.W.Frag} {σ : St} {en : En} {W : Wd} {H : Hp} {ls : List LV} {vs : List V} (h : Pend K σ en W H ls vs) (n : vs.length = 3) : ∃ u v w, vs = [u, v, w] := match vs, n with
  | [u, v, w], _ => ⟨u, v, w, rfl⟩
theorem Pend.length {K : PySem.W.Frag} {σ : St} {en : En} {W : Wd} {H : Hp} : ∀ {ls : List LV} {vs : List V}, Pend K σ en W H ls vs → vs.length = ls.length
  | [], _, h => by rw [show _ = [] from h]; rfl
  | _ :: _, _, ⟨v, r, e, _, _, t⟩ => by rw [e, List.length_cons, List.length_cons, Pend.length t]
theorem ps_par_ev (hc : X.calm = true) (hN : X.N.Nodup) (hi : X.N[i]? = some x) (hj : X.N[j]? = some y) (hij : i ≠ j) (hx : X.env.scope.names.lookup x = some .local) (hy : X.env.scope.names.lookup y = some .local) {m1 m2 : Ma LV}
    (ha : ELs X Wx [a, b] (pCons m1 (pCons m2 pNil))) (hw : swappedStores [.Tuple [.Name x px, .Name y py] kt pt] (.Tuple [a, b] k2 pt2) X.env = pure (some [x, y])) (hs : swapsWithSole [.Tuple [.Name x px, .Name y py] kt pt] (.Tuple [a, b] k2 pt2) pos.line X.env = pure false := by rfl) :
    ES X Wx (.Assign [.Tuple [.Name x px, .Name y py] kt pt] (.Tuple [a, b] k2 pt2) pos) (sPar [i, j] (pCons m1 (pCons m2 pNil))) :=
  PS.weak (ps_par (ta := TR X.K Wx (relP X.K) (pCons m1 (pCons m2 pNil))) hc hN hi hj hij hx hy ha hw hs) fun D σ H q => by
    obtain ⟨W, e, μ, r, p⟩ := q
    refine ⟨W, e, μ, r, ?_⟩
    unfold sPar sExp at p
    have two : ∀ ls e1 μ1, pCons m1 (pCons m2 pNil) e μ = .ok ls e1 μ1 → ls.length = 2 := fun ls e1 μ1 z => by
      unfold pCons mBind pNil Rs.bind at z
      cases h1 : m1 e μ with
      | ok l1 ea μa =>
        rw [h1] at z
        simp only at z
        cases h2 : m2 ea μa with
        | ok l2 eb μb =>
          rw [h2] at z
          cases z
          rfl
        | ex _ _ _ => rw [h2] at z; cases z
        | bad => rw [h2] at z; cases z
      | ex _ _ _ => rw [h1] at z; cases z
      | bad => rw [h1] at z; cases z
    cases hm : pCons m1 (pCons m2 pNil) e μ with
    | bad => rw [hm] at p; exact p.elim
    | ex x1 e1 μ1 =>
      rw [hm] at p
      exact fun W1 H1 cls d x1 r1 => p W1 H1 σ cls d x1 r1
    | ok ls e1 μ1 =>
      rw [hm] at p
      intro W1 H1 vs x1 r1 z
      obtain ⟨v, w, rfl⟩ := pend2 z ((Pend.length z).trans (two ls e1 μ1 hm))
      exact ⟨v, w, rfl, p W1 H1 _ x1 (Rel.setsLV [i, j] r1 z)⟩
theorem ps_par3_ev (hc : X.calm = true) (hN : X.N.Nodup) (hi : X.N[i]? = some x) (hj : X.N[j]? = some y) (hl : X.N[l]? = some z) (hij : i ≠ j) (hil : i ≠ l) (hjl : j ≠ l) (hx : X.env.scope.names.lookup x = some .local) (hy : X.env.scope.names.lookup y = some .local)
    (hz : X.env.scope.names.lookup z = some .local) {m1 m2 m3 : Ma LV} (ha : ELs X Wx [a, b, c] (pCons m1 (pCons m2 (pCons m3 pNil)))) (hw : swappedStores [.Tuple [.Name x px, .Name y py, .Name z pz] kt pt] (.Tuple [a, b, c] k2 pt2) X.env = pure (some [x, y, z]))
    (hs : swapsWithSole [.Tuple [.Name x px, .Name y py, .Name z pz] kt pt] (.Tuple [a, b, c] k2 pt2) pos.line X.env = pure false := by rfl) :
    ES X Wx (.Assign [.Tuple [.Name x px, .Name y py, .Name z pz] kt pt] (.Tuple [a, b, c] k2 pt2) pos) (sPar [i, j, l] (pCons m1 (pCons m2 (pCons m3 pNil)))) :=
  PS.weak (ps_par3 (ta := TR X.K Wx (relP X.K) (pCons m1 (pCons m2 (pCons m3 pNil)))) hc hN hi hj hl hij hil hjl hx hy hz ha hw hs) fun D σ H q => by
    obtain ⟨W, e, μ, r, p⟩ := q
    refine ⟨W, e, μ, r, ?_⟩
    unfold sPar sExp at p
    have three : ∀ ls e1 μ1, pCons m1 (pCons m2 (pCons m3 pNil)) e μ = .ok ls e1 μ1 → ls.length = 3 := fun ls e1 μ1 z => by
      unfold pCons mBind pNil Rs.bind at z
      cases h1 : m1 e μ with
      | ok l1 ea μa =>
        rw [h1] at z
        simp only at z
        cases h2 : m2 ea μa with
        | ok l2 eb μb =>
          rw [h2] at z
          simp only at z
          cases h3 : m3 eb μb with
          | ok l3 ec μc =>
            rw [h3] at z
            cases z
            rfl
          | ex _ _ _ => rw [h3] at z; cases z
          | bad => rw [h3] at z; cases z
        | ex _ _ _ => rw [h2] at z; cases z
        | bad => rw [h2] at z; cases z
      | ex _ _ _ => rw [h1] at z; cases z
      | bad => rw [h1] at z; cases z
    cases hm : pCons m1 (pCons m2 (pCons m3 pNil)) e μ with
    | bad => rw [hm] at p; exact p.elim
    | ex x1 e1 μ1 =>
      rw [hm] at p
      exact fun W1 H1 cls d x1 r1 => p W1 H1 σ cls d x1 r1
    | ok ls e1 μ1 =>
      rw [hm] at p
      intro W1 H1 vs x1 r1 z
      obtain ⟨u, v, w, rfl⟩ := pend3 z ((Pend.length z).trans (three ls e1 μ1 hm))
      exact ⟨u, v, w, rfl, p W1 H1 _ x1 (Rel.setsLV [i, j, l] r1 z)⟩
end
end Ev

set_option maxRecDepth 100000
set_option maxHeartbeats 4000000
/-! Ev10: dicts. -/
namespace Ev
open PySem PySem.Spec PyProof.Rows L2
variable [PWo]

/-! ### keys -/
section
variable {K : PySem.W.Frag} {W : Wd} {H : Hp}
theorem keyA_ok {d : D} {k : Key} (h : keyA d = some k) : ∀ v, RV K W H d v ↔ v = kV k := by
  cases d with
  | int i => cases h; exact fun v => Iff.rfl
  | str x => cases h; exact fun v => Iff.rfl
  | _ => cases h
theorem keysA_cons {d : D} {ds : List D} {ks : List Key} (h : keysA (d :: ds) = some ks) : ∃ k r, ks = k :: r ∧ keyA d = some k ∧ keysA ds = some r := by
  rw [keysA] at h
  cases h1 : keyA d with
  | none => rw [h1] at h; cases h
  | some k =>
    cases h2 : keysA ds with
    | none => rw [h1, h2] at h; cases h
    | some r =>
      rw [h1, h2] at h
      exact ⟨k, r, (Option.some.inj h).symm, rfl, rfl⟩
theorem keysT_cons {d : D} {ds : List D} {ks : List (List Key)} (h : keysT (d :: ds) = some ks) : ∃ k r, ks = k :: r ∧ keyT d = some k ∧ keysT ds = some r := by
  rw [keysT] at h
  cases h1 : keyT d with
  | none => rw [h1] at h; cases h
  | some k =>
    cases h2 : keysT ds with
    | none => rw [h1, h2] at h; cases h
    | some r =>
      rw [h1, h2] at h
      exact ⟨k, r, (Option.some.inj h).symm, rfl, rfl⟩
theorem keysA_ok : ∀ {ds : List D} {ks : List Key}, keysA ds = some ks → ∀ vs, RVs K W H ds vs ↔ vs = ks.map kV
  | [], ks, h, vs => by
    cases h
    exact Iff.rfl
  | d :: ds, ks, h, vs => by
    obtain ⟨k, r, rfl, h1, h2⟩ := keysA_cons h
    constructor
    · rintro ⟨v, w, rfl, g1, g2⟩
      rw [(keyA_ok h1 v).mp g1, (keysA_ok h2 w).mp g2]
      rfl
    · rintro rfl
      exact ⟨_, _, rfl, (keyA_ok h1 _).mpr rfl, (keysA_ok h2 _).mpr rfl⟩
theorem keyT_ok {d : D} {k : List Key} (h : keyT d = some k) : ∀ v, RV K W H d v ↔ ∃ a, v = .ref a ∧ TP H a (k.map kV) := by
  cases d with
  | tup xs =>
    intro v
    constructor
    · rintro ⟨a, vs, e, g1, g2⟩
      rw [(keysA_ok h vs).mp g2] at g1
      exact ⟨a, e, g1⟩
    · rintro ⟨a, e, g⟩
      exact ⟨a, _, e, g, (keysA_ok h _).mpr rfl⟩
  | _ => cases h
end
/-! ### a table of keys and values -/
section
variable {κ : Type} [DecidableEq κ]
def dFind (kf : D → Option κ) : List D → List D → κ → Option D
  | k :: ks, v :: vs, q => (match decide (kf k = some q) with
    | true => some v
    | false => dFind kf ks vs q)
  | _, _, _ => none
def dSet (kf : D → Option κ) : List D → List D → κ → D → List D
  | k :: ks, v :: vs, q, x => (match decide (kf k = some q) with
    | true => x
    | false => v) :: dSet kf ks vs q x
  | _, vs, _, _ => vs
def dPut (kf : D → Option κ) (ks vs : List D) (q : κ) (kd x : D) : List D × List D := match dFind kf ks vs q with
  | some _ => (ks, dSet kf ks vs q x)
  | none => (ks ++ [kd], vs ++ [x])
/-- the keys, one by one -/
inductive KL (kf : D → Option κ) : List D → List κ → Prop
  | nil : KL kf [] []
  | cons {d : D} {k : κ} {ds : List D} {ks : List κ} : kf d = some k → KL kf ds ks → KL kf (d :: ds) (k :: ks)
theorem KL.snoc {kf : D → Option κ} {d : D} {k : κ} (h : kf d = some k) : ∀ {ds : List D} {ks : List κ}, KL kf ds ks → KL kf (ds ++ [d]) (ks ++ [k])
  | _, _, .nil => .cons h .nil
  | _, _, .cons a b => .cons a (b.snoc h)
theorem KL.length : ∀ {kf : D → Option κ} {ds : List D} {ks : List κ}, KL kf ds ks → ds.length = ks.length
  | _, _, _, .nil => rfl
  | _, _, _, .cons a b => by rw [List.length_cons, List.length_cons, b.length]
theorem KL.get : ∀ {kf : D → Option κ} {ds : List D} {ks : List κ} {i : Nat} {k : κ}, KL kf ds ks → ks[i]? = some k → ∃ d, ds[i]? = some d ∧ kf d = some k
  | _, _, _, i, k, .nil, h => by simp at h
  | _, _, _, 0, k, .cons (d := d) a b, h => by
    simp at h
    subst h
    exact ⟨d, rfl, a⟩
  | _, _, _, i + 1, k, .cons a b, h => by
    obtain ⟨d, h1, h2⟩ := KL.get (i := i) b (by simpa using h)
    exact ⟨d, by simpa using h1, h2⟩
variable {K : PySem.W.Frag} {W : Wd} {H : Hp} {kf : D → Option κ}
theorem atKey_pos {x : κ × Addr × Value} {r : List (κ × Addr × Value)} {k : κ} (h : x.1 = k) : atKey (x :: r) k = some x.2 := by simp [atKey, List.find?_cons, h]
theorem atKey_neg {x : κ × Addr × Value} {r : List (κ × Addr × Value)} {k : κ} (h : ¬ x.1 = k) : atKey (x :: r) k = atKey r k := by simp [atKey, List.find?_cons, h]
/-- the values of a dict's entries stand for these data -/
inductive VX (K : PySem.W.Frag) (W : Wd) (H : Hp) : List D → List (κ × Addr × Value) → Prop
  | nil : VX K W H [] []
  | cons {d : D} {v : V} {x : κ × Addr × Value} {ds : List D} {xs : List (κ × Addr × Value)} : RV K W H d v → RelV v x.2.2 → VX K W H ds xs → VX K W H (d :: ds) (x :: xs)
theorem VX.of : ∀ {ds : List D} {vs : List V} {xs : List (κ × Addr × Value)}, RVs K W H ds vs → Vals vs (xs.map (·.2.2)) → VX K W H ds xs
  | [], vs, xs, h1, h2 => by
    rw [show vs = [] from h1] at h2
    cases xs with
    | nil => exact .nil
    | cons x r => cases h2
  | d :: ds, vs, xs, h1, h2 => by
    obtain ⟨v, w, rfl, g1, g2⟩ := h1
    cases xs with
    | nil => cases h2
    | cons x r =>
      cases h2 with
      | cons a b => exact .cons g1 a (VX.of g2 b)
theorem VX.to : ∀ {ds : List D} {xs : List (κ × Addr × Value)}, VX K W H ds xs → ∃ vs, RVs K W H ds vs ∧ Vals vs (xs.map (·.2.2))
  | _, _, .nil => ⟨[], rfl, .nil⟩
  | _, _, .cons (v := v) a b c => by
    obtain ⟨vs, h1, h2⟩ := c.to
    exact ⟨v :: vs, ⟨v, vs, rfl, a, h1⟩, .cons b h2⟩
theorem VX.ext {W' : Wd} {H' : Hp} (x : Ext W H W' H') : ∀ {ds : List D} {xs : List (κ × Addr × Value)}, VX K W H ds xs → VX K W' H' ds xs
  | _, _, .nil => .nil
  | _, _, .cons a b c => .cons (RV.ext x _ _ a) b (c.ext x)
theorem VX.snoc {d : D} {v : V} {y : κ × Addr × Value} (h1 : RV K W H d v) (h2 : RelV v y.2.2) : ∀ {ds : List D} {xs : List (κ × Addr × Value)}, VX K W H ds xs → VX K W H (ds ++ [d]) (xs ++ [y])
  | _, _, .nil => .cons h1 h2 .nil
  | _, _, .cons a b c => .cons a b (c.snoc h1 h2)
theorem VX.get {i : Nat} {x : κ × Addr × Value} : ∀ {ds : List D} {xs : List (κ × Addr × Value)} {i : Nat} {x : κ × Addr × Value}, VX K W H ds xs → xs[i]? = some x → ∃ d v, ds[i]? = some d ∧ RV K W H d v ∧ RelV v x.2.2
  | _, _, i, x, .nil, h => by simp at h
  | _, _, 0, x, .cons a b c, h => by
    simp at h
    subst h
    exact ⟨_, _, rfl, a, b⟩
  | _, _, i + 1, x, .cons a b c, h => by
    obtain ⟨d, v, h1, h2⟩ := VX.get (i := i) (x := x) c (by simpa using h)
    exact ⟨d, v, by simpa using h1, h2⟩
theorem VX.length : ∀ {ds : List D} {xs : List (κ × Addr × Value)}, VX K W H ds xs → ds.length = xs.length
  | _, _, .nil => rfl
  | _, _, .cons _ _ c => by rw [List.length_cons, List.length_cons, c.length]
theorem find_ok {q : κ} : ∀ {ks ds : List D} {xs : List (κ × Addr × Value)}, KL kf ks (xs.map (·.1)) → VX K W H ds xs →
    (∀ d, dFind kf ks ds q = some d → ∃ p v, atKey xs q = some p ∧ RV K W H d v ∧ RelV v p.2) ∧ (dFind kf ks ds q = none → atKey xs q = none)
  | ks, [], [], h1, h2 => by
    have e : ∀ q, dFind kf ks [] q = none := fun q => by cases ks <;> rfl
    rw [e]
    exact ⟨fun d h => (nomatch h), fun _ => rfl⟩
  | [], d :: ds, x :: xs, h1, h2 => by cases h1
  | k :: ks, d :: ds, x :: xs, h1, h2 => by
    cases h1 with
    | cons a b =>
      cases h2 with
      | cons g1 g2 g3 =>
        obtain ⟨i1, i2⟩ := find_ok (q := q) b g3
        have a : kf k = some x.1 := a
        rw [dFind]
        by_cases hk : x.1 = q
        · have e1 : decide (kf k = some q) = true := by rw [a, hk]; simp
          rw [e1]
          refine ⟨fun d' h => ?_, fun h => nomatch h⟩
          cases h
          exact ⟨x.2, _, atKey_pos hk, g1, g2⟩
        · have e1 : decide (kf k = some q) = false := by rw [a]; simp [hk]
          rw [e1, atKey_neg hk]
          exact ⟨i1, i2⟩
theorem set_ok {q : κ} {x : D} {y : V} {u : Value} (hx : RV K W H x y) (hu : RelV y u) : ∀ {ks ds : List D} {xs : List (κ × Addr × Value)}, KL kf ks (xs.map (·.1)) → VX K W H ds xs → VX K W H (dSet kf ks ds q x) (xs.map (putAt q u))
  | ks, [], [], h1, h2 => by
    have e : dSet kf ks [] q x = [] := by cases ks <;> rfl
    rw [e]
    exact .nil
  | [], d :: ds, z :: xs, h1, h2 => by cases h1
  | k :: ks, d :: ds, z :: xs, h1, h2 => by
    cases h1 with
    | cons a b =>
      cases h2 with
      | cons g1 g2 g3 =>
        have a : kf k = some z.1 := a
        rw [dSet, List.map_cons]
        by_cases hk : z.1 = q
        · have e1 : decide (kf k = some q) = true := by rw [a, hk]; simp
          rw [e1]
          exact .cons hx (by unfold putAt; rw [if_pos hk]; exact hu) (set_ok hx hu b g3)
        · have e1 : decide (kf k = some q) = false := by rw [a]; simp [hk]
          rw [e1]
          exact .cons g1 (by unfold putAt; rw [if_neg hk]; exact g2) (set_ok hx hu b g3)
theorem putAt_keys {q : κ} {u : Value} : ∀ xs : List (κ × Addr × Value), (xs.map (putAt q u)).map (·.1) = xs.map (·.1)
  | [] => rfl
  | x :: r => by
    simp only [List.map_cons]
    rw [putAt_keys r]
    congr 1
    unfold putAt
    by_cases h : x.1 = q <;> simp [h]
theorem putAt_addr {q : κ} {u : Value} {xs : List (κ × Addr × Value)} {P : κ → Addr → Prop} (h : ∀ x ∈ xs, P x.1 x.2.1) : ∀ x ∈ xs.map (putAt q u), P x.1 x.2.1 := fun x hx => by
  obtain ⟨y, hy, rfl⟩ := List.mem_map.mp hx
  have := h y hy
  unfold putAt
  by_cases h : y.1 = q <;> simpa [h] using this
theorem put_ok {q : κ} {kd x : D} {y : V} {u : Value} {b : Addr} (hx : RV K W H x y) (hu : RelV y u) (hk : kf kd = some q) {ks ds : List D} {xs : List (κ × Addr × Value)} (h1 : KL kf ks (xs.map (·.1))) (h2 : VX K W H ds xs) :
    KL kf (dPut kf ks ds q kd x).1 ((storedH xs q b u).map (·.1)) ∧ VX K W H (dPut kf ks ds q kd x).2 (storedH xs q b u) := by
  obtain ⟨f1, f2⟩ := find_ok (q := q) h1 h2
  unfold dPut
  cases c : dFind kf ks ds q with
  | some d =>
    obtain ⟨p, v, e, _⟩ := f1 d c
    rw [storedH_old e]
    refine ⟨?_, set_ok hx hu h1 h2⟩
    rw [putAt_keys]
    exact h1
  | none =>
    rw [storedH_new (f2 c), List.map_append]
    exact ⟨h1.snoc hk, h2.snoc hx hu⟩
theorem stored_addr {q : κ} {b : Addr} {u : Value} {xs : List (κ × Addr × Value)} {P : κ → Addr → Prop} (h : ∀ x ∈ xs, P x.1 x.2.1) (hb : P q b) : ∀ x ∈ storedH xs q b u, P x.1 x.2.1 := by
  unfold storedH
  split
  · exact putAt_addr h
  · intro x hx
    rcases List.mem_append.mp hx with hx | hx
    · exact h x hx
    · rw [List.mem_singleton.mp hx]
      exact hb
theorem stored_len {q : κ} {b : Addr} {u : Value} (xs : List (κ × Addr × Value)) : (storedH xs q b u).length ≤ xs.length + 1 := by
  unfold storedH
  split
  · rw [List.length_map]; omega
  · rw [List.length_append]; exact Nat.le_refl _
end
theorem KL.ofT : ∀ {ds : List D} {ks : List (List Key)}, keysT ds = some ks → KL keyT ds ks
  | [], _, h => by cases h; exact .nil
  | d :: ds, _, h => by
    obtain ⟨k, r, rfl, h1, h2⟩ := keysT_cons h
    exact .cons h1 (KL.ofT h2)
theorem KL.toT : ∀ {ds : List D} {ks : List (List Key)}, KL keyT ds ks → keysT ds = some ks
  | _, _, .nil => rfl
  | _, _, .cons a b => by rw [keysT, a, b.toT]

/-! ### over the heap -/
/-- X runs the program that is talked of -/
structure Cxp (X : Cx) : Prop where
  prog : X.prog = PWo.P
  w : X.w = PWo.w
section
variable {X : Cx} {pins : List (Addr × Obj)} {σ : St} {H : Hp} {s : Shared} {a b : Addr} {o : Obj} {xs : List (List Key × Addr × Value)} {k : List Key}
theorem key_tp (I : Inv X pins σ H s) (h : TP H b (k.map kV)) : (tupleKind (mixKind X.prog X.w)).is s.heap k b := by
  obtain ⟨ob, e, _⟩ := h
  obtain ⟨_, _, its, r, o, h1, h2, n, h3⟩ := I.hok b _ e
  exact ⟨o, its.toArray, n, h1, h2, h3, by simpa using items_are r⟩
theorem dT_at (hp : Cxp X) (I : Inv X pins σ H s) (h1 : H a = some (dTe a o)) (h2 : ObT a o xs) (h4 : ∀ x ∈ xs, TP H x.2.1 (x.1.map kV)) : s.heap.get? a = some o ∧ s.heap.DictOfH (tupleKind (mixKind X.prog X.w)) a xs := by
  have ho : s.heap.get? a = some o := (I.hok a _ h1).1
  obtain ⟨es, ep, e1, e2⟩ := h2.en
  rw [← hp.prog, ← hp.w] at e2
  exact ⟨ho, o, es, ep, ho, h2.ex, e1, e2, fun x hx => key_tp I (h4 x hx), h2.nd⟩
theorem dTe_ok {P : Program} {w : World} {H : Hp} {h : Heap} (e : h.get? a = some o) : ObjOk P w H h a (dTe a o) := ⟨e, ⟨o, e⟩, fun h1 h2 p k => k o p⟩
/-- y at the dict at a -/
def DG (H : Hp) (a : Addr) (y : V) (r : Option V) : Prop := ∃ o xs k b, H a = some (dTe a o) ∧ ObT a o xs ∧ (∀ x ∈ xs, TP H x.2.1 (x.1.map kV)) ∧ y = .ref b ∧ TP H b (k.map kV) ∧ RelO r ((atKey xs k).map (·.2))
theorem DG.typ (hp : Cxp X) {y : V} {r : Option V} (I : Inv X pins σ H s) (g : DG H a y r) : s.TypeIs (.ref a) "dict" := by
  obtain ⟨o, xs, k, b, h1, h2, h3, rfl, h4, h5⟩ := g
  exact (dT_at hp I h1 h2 h3).2.typeIs
end

/-! ### functions -/
/-- what the dict holds at the key; none: no key, no dict -/
def dAt (e : En) (μ : Mu) (d k : D) : Option (Option D) := match contE e μ d with
  | some (.dic true ks vs) => (match keyT k with
    | some q => some (dFind keyT ks vs q)
    | none => none)
  | _ => none
def fDGet (d k : D) : ME := fun e μ => match dAt e μ d k with
  | some (some v) => .ok v e μ
  | _ => .bad
def fDIn (neg : Bool) (k d : D) : ME := fun e μ => match dAt e μ d k with
  | some o => .ok (.bl (negB neg o.isSome)) e μ
  | none => .bad
def OptR (K : PySem.W.Frag) (W : Wd) (H : Hp) : Option D → Option V → Prop
  | some v, w => ∃ u, w = some u ∧ RV K W H v u
  | none, w => w = none
section
variable {K : PySem.W.Frag} {W : Wd} {H : Hp} {e : En} {σ : St} {μ : Mu}
theorem dAt_ok (r : Rel K W H e σ μ) {d k : D} {x y : V} {o : Option D} (h1 : RP K σ W H d x) (h2 : RP K σ W H k y) (q : dAt e μ d k = some o) : ∃ a w, x = .ref a ∧ DG H a y w ∧ OptR K W H o w := by
  unfold dAt at q
  cases z : contE e μ d with
  | none => rw [z] at q; cases q
  | some ob =>
    rw [z] at q
    cases ob with
    | lst _ => cases q
    | ins _ _ => cases q
    | dic t ks vs =>
      cases t with
      | false => cases q
      | true =>
        obtain ⟨a, rfl, ws, ⟨oo, xs, g1, g2, g3, g4, g5⟩, g6⟩ := cont_ok r h1 z
        cases c : keyT k with
        | none => rw [c] at q; cases q
        | some kk =>
          rw [c] at q
          have h2' : RV K W H k y := by
            cases k with
            | loc i => cases c
            | _ => exact h2
          obtain ⟨b, rfl, hb⟩ := (keyT_ok c y).mp h2'
          obtain ⟨f1, f2⟩ := find_ok (q := kk) (KL.ofT g3) (VX.of g6 g5)
          cases q
          cases f : dFind keyT ks vs kk with
          | none =>
            exact ⟨a, none, rfl, ⟨oo, xs, kk, b, g1, g2, g4, rfl, hb, by rw [f2 f]; trivial⟩, rfl⟩
          | some d' =>
            obtain ⟨p, v, e1, e2, e3⟩ := f1 d' f
            exact ⟨a, some v, rfl, ⟨oo, xs, kk, b, g1, g2, g4, rfl, hb, by rw [e1]; exact e3⟩, v, rfl, e2⟩
theorem OptR.isSome {o : Option D} {w : Option V} (h : OptR K W H o w) : w.isSome = o.isSome := by
  cases o with
  | none => rw [show w = none from h]; rfl
  | some v => obtain ⟨u, e2, _⟩ := h; rw [e2]; rfl
end
/-! ### rules -/
section
variable {X : Cx} {o i ex : Expr} {td ty tv tx : TE} {pos pos' apos cpos : Pos} {e f : Expr}
def tTGet (td ty : TE) : TE := fun σ H Q => td σ H fun x H1 => ty σ H1 fun y H2 => ∃ a v, x = .ref a ∧ DG H2 a y (some v) ∧ Q v H2
theorem RelO.some_at {v : V} {u : Option Value} (h : RelO (some v) u) : ∃ w, u = some w ∧ RelV v w := by
  cases u with
  | none => exact h.elim
  | some w => exact ⟨w, rfl, h⟩
theorem RelO.same_some {r : Option V} {u : Option Value} (h : RelO r u) : u.isSome = r.isSome := by
  cases r <;> cases u <;> first | rfl | exact h.elim
theorem pe_tget (hp : Cxp X) (hu : X.A.units + 1 < cLine) (ho : PE X o td) (hi : PE X i ty) (hs : NoSl i) : PE X (.Subscript o i pos) (tTGet td ty) := by
  refine ⟨fun pins s σ H Q I h => ?_⟩
  refine subD_of PySem.F.slot_dict_getitem.lookup hs (thn (ho.run pins s σ H _ I h) fun u s1 ⟨x, H1, I1, rx, q1⟩ => thn (hi.run pins s1 σ H1 _ I1 q1) fun iv s2 ⟨y, H2, I2, ry, a, v, ea, g, q2⟩ => ?_)
  subst ea
  obtain rfl : u = Value.ref a := rx
  refine ⟨g.typ hp I2, ?_⟩
  obtain ⟨oo, xs, k, b, h1, h2, h3, rfl, h4, h5⟩ := g
  cases (show iv = Value.ref b from ry)
  obtain ⟨w, hw, rw'⟩ := RelO.some_at h5
  obtain ⟨p, hp1, hp2⟩ := Option.map_eq_some_iff.mp hw
  refine wpAny_getItem_heap (tupleKind_room_in1 hu) (key_tp I2 h4) (dT_at hp I2 h1 h2 h3).2 hp1 ?_
  rw [hp2]
  exact ⟨v, H2, I2.tok _, rw', q2⟩
def tTIn (neg : Bool) (ty td : TE) : TE := fun σ H Q => ty σ H fun y H1 => td σ H1 fun x H2 => ∃ a r, x = .ref a ∧ DG H2 a y r ∧ Q (.bl (negB neg r.isSome)) H2
theorem pc_tin (hp : Cxp X) (hu : X.A.units + 1 < cLine) (hi : PE X i ty) (ho : PE X o td) : PC X .In i o (tTIn false ty td) := by
  refine ⟨fun pins s σ H Q I h => ?_⟩
  refine thn (hi.run pins s σ H _ I h) fun iv s1 ⟨y, H1, I1, ry, q1⟩ => thn (ho.run pins s1 σ H1 _ I1 q1) fun u s2 ⟨x, H2, I2, rx, a, r, ea, g, q2⟩ => ?_
  subst ea
  obtain rfl : u = Value.ref a := rx
  obtain ⟨oo, xs, k, b, h1, h2, h3, rfl, h4, h5⟩ := g
  cases (show iv = Value.ref b from ry)
  refine wpAny_in_heap (tupleKind_room_in1 hu) (key_tp I2 h4) h2.sys (dT_at hp I2 h1 h2 h3).2 ?_
  have e := RelO.same_some h5
  rw [Option.isSome_map] at e
  rw [e]
  exact ⟨.bl r.isSome, H2, I2.tok _, rfl, q2⟩
theorem pc_tnotin (hp : Cxp X) (hu : X.A.units + 1 < cLine) (hi : PE X i ty) (ho : PE X o td) : PC X .NotIn i o (tTIn true ty td) := by
  refine ⟨fun pins s σ H Q I h => ?_⟩
  refine thn (hi.run pins s σ H _ I h) fun iv s1 ⟨y, H1, I1, ry, q1⟩ => thn (ho.run pins s1 σ H1 _ I1 q1) fun u s2 ⟨x, H2, I2, rx, a, r, ea, g, q2⟩ => ?_
  subst ea
  obtain rfl : u = Value.ref a := rx
  obtain ⟨oo, xs, k, b, h1, h2, h3, rfl, h4, h5⟩ := g
  cases (show iv = Value.ref b from ry)
  refine wpAny_notIn_heap (tupleKind_room_in1 hu) (key_tp I2 h4) h2.sys (dT_at hp I2 h1 h2 h3).2 ?_
  have e := RelO.same_some h5
  rw [Option.isSome_map] at e
  rw [e]
  exact ⟨.bl (!r.isSome), H2, I2.tok _, rfl, q2⟩
/-- d[k] = v -/
def sTPut (td ty tv : TE) : TS := fun D σ H => tv σ H fun v H1 => td σ H1 fun x H2 => ty σ H2 fun y H3 => ∃ a oo xs k b, x = .ref a ∧ H3 a = some (dTe a oo) ∧ ObT a oo xs ∧ (∀ z ∈ xs, TP H3 z.2.1 (z.1.map kV)) ∧ y = .ref b ∧ TP H3 b (k.map kV) ∧ xs.length < sizeLine ∧
  ∀ o' u, RelV v u → ObT a o' (storedH xs k b u) → D.nx σ (upd H3 a (dTe a o'))
theorem ps_tput (hp : Cxp X) (hu : X.A.units + 1 < cLine) (ho : PE X o td) (hi : PE X i ty) (hv : PE X ex tv) (hs : swapsWith ex (some (.Subscript o i pos')) pos.line X.env = pure false) : PS X (.Assign [.Subscript o i pos'] ex pos) (sTPut td ty tv) := by
  refine ⟨fun pins s σ H D I h => ?_⟩
  refine wpAny_Assign_Subscript (thn (hv.run pins s σ H _ I h) fun r s1 ⟨v, H1, I1, rv, q1⟩ => thn (ho.run pins s1 σ H1 _ I1 q1) fun u s2 ⟨x, H2, I2, rx, q2⟩ => thn (hi.run pins s2 σ H2 _ I2 q2) fun iv s3 ⟨y, H3, I3, ry, a, oo, xs, k, b, ea, h1, h2, h3, ey, h4, h5, q3⟩ => ?_) hs
  subst ea ey
  obtain rfl : u = Value.ref a := rx
  cases (show iv = Value.ref b from ry)
  obtain ⟨g1, g2⟩ := dT_at hp I3 h1 h2 h3
  refine wpAny_setItem_heap (hsz := h2.len) (tupleKind_room_in1 hu) (key_tp I3 h4) g2 fun h' dd' hs' => ?_
  obtain ⟨o', es, ep, k1, k2, k3, k4, _, k6⟩ := dd'
  rw [hp.prog, hp.w] at k4
  have ob : ObT a o' (storedH xs k b r) := ⟨h2.sys, by have := stored_len (q := k) (b := b) (u := r) xs; omega, k2, ⟨es, ep, k3, k4⟩, k6⟩
  exact ⟨σ, _, d_write I3 (by rw [h1]; trivial) hs' ⟨o', k1⟩ (dTe_ok k1), q3 o' r rv ob⟩
/-- {} -/
def tTNew : TE := fun _ H Q => ∀ p o, H p = none → ObT p o [] → Q (.ref p) (upd H p (dTe p o))
theorem pe_tnew : PE X (.Dict [] [] pos) tTNew := ⟨fun pins s σ H Q I h => by
  have e : (s.heap.push { cls := .type "dict", data := .dict #[] }).get? s.heap.objs.size = some { cls := .type "dict", data := .dict #[] } := Heap.get?_push_size _ rfl
  refine wpAny_Dict_empty ⟨.ref s.heap.objs.size, _, I.laid (t' := s.toks) (fun _ _ q => Heap.get?_push_of_some _ q) (Nat.le_refl _) (dTe_ok e), rfl, h _ _ (I.hok.fresh (Nat.le_refl _)) ?_⟩
  refine ⟨beq_eq_false_iff_ne.mpr (Nat.ne_of_gt I.big), Nat.zero_le _, ⟨rfl, rfl, rfl⟩, ⟨#[], 0, rfl, rfl⟩, List.Pairwise.nil⟩⟩
end
section
variable {X : Cx} {Wx : WX} {o i ex : Expr} {md mk mv : ME} {pos pos' : Pos}
theorem ee_dget (hp : Cxp X) (hu : X.A.units + 1 < cLine) (ho : EE X Wx o md) (hi : EE X Wx i mk) (hs : NoSl i := by intro _ _; rfl) : EE X Wx (.Subscript o i pos) (m2 fDGet md mk) := PE.weak (pe_tget hp hu ho hi hs) fun σ H Q q => by
  refine TR.two (relC := relV X.K) (relB := relV X.K) (f := fDGet) q fun W H e μ a b c d r z1 z2 p => ?_
  unfold fDGet at p
  cases c1 : dAt e μ a c with
  | none => rw [c1] at p; exact p.elim
  | some w =>
    cases w with
    | none => rw [c1] at p; exact p.elim
    | some v =>
      rw [c1] at p
      obtain ⟨ad, w, e1, g1, u, g2, g3⟩ := dAt_ok r z1 z2 c1
      subst g2
      exact ⟨ad, u, e1, g1, Post.ok p r (RP.of g3)⟩
theorem mTest_din (neg : Bool) (a b : D) (e : En) (μ : Mu) : mTest (fDIn neg a b) e μ = match dAt e μ b a with
    | some o => (.ok (negB neg o.isSome) e μ : Rs Bool)
    | none => .bad := by
  unfold mTest mBind Rs.bind fDIn
  cases dAt e μ b a <;> rfl
theorem l_din (neg : Bool) {K : PySem.W.Frag} {Q : VK} {W : Wd} {H : Hp} {e : En} {σ : St} {μ : Mu} {a b : D} {x y : V} (r : Rel K W H e σ μ) (z1 : RP K σ W H a x) (z2 : RP K σ W H b y) (p : Post K Wx (relV K) W H σ (fDIn neg a b e μ) Q) :
    ∃ ad o, y = .ref ad ∧ DG H ad x o ∧ Q (.bl (negB neg o.isSome)) H := by
  unfold fDIn at p
  cases c1 : dAt e μ b a with
  | none => rw [c1] at p; exact p.elim
  | some w =>
    rw [c1] at p
    obtain ⟨ad, w', e1, g1, g2⟩ := dAt_ok r z2 z1 c1
    refine ⟨ad, w', e1, g1, ?_⟩
    rw [g2.isSome]
    exact Post.ok p r (RP.of rfl)
theorem l_dinB (neg : Bool) {K : PySem.W.Frag} {Q : Bool → Hp → Prop} {W : Wd} {H : Hp} {e : En} {σ : St} {μ : Mu} {a b : D} {x y : V} (r : Rel K W H e σ μ) (z1 : RP K σ W H a x) (z2 : RP K σ W H b y) (p : Post K Wx relB W H σ (mTest (fDIn neg a b) e μ) Q) :
    ∃ ad o, y = .ref ad ∧ DG H ad x o ∧ Q (negB neg o.isSome) H := by
  rw [mTest_din] at p
  cases c1 : dAt e μ b a with
  | none => rw [c1] at p; exact p.elim
  | some w =>
    rw [c1] at p
    obtain ⟨ad, w', e1, g1, g2⟩ := dAt_ok r z2 z1 c1
    refine ⟨ad, w', e1, g1, ?_⟩
    rw [g2.isSome]
    exact Post.ok p r rfl
theorem test_m2 {f : D → D → ME} {ma mb : ME} : mTest (m2 f ma mb) = mBind ma fun x => mBind mb fun y => mTest (f x y) := by
  unfold mTest m2
  rw [mBind_assoc]
  congr 1
  funext x
  rw [mBind_assoc]
theorem ee_din (hp : Cxp X) (hu : X.A.units + 1 < cLine) (hi : EE X Wx i mk) (ho : EE X Wx o md) (hm : behindInMarks .In o = false := by rfl) : EE X Wx (.Compare i [.In] [o] pos) (m2 (fDIn false) mk md) := PE.weak (pe_cmp (pc_tin hp hu hi ho) hm) fun σ H Q q => by
  refine TR.two (relC := relV X.K) (relB := relV X.K) (f := fDIn false) q fun W H e μ a b c d r z1 z2 p => ?_
  obtain ⟨ad, w, e1, g1, g2⟩ := l_din false r z1 z2 p
  exact ⟨ad, w, e1, g1, g2⟩
theorem ee_dnotin (hp : Cxp X) (hu : X.A.units + 1 < cLine) (hi : EE X Wx i mk) (ho : EE X Wx o md) (hm : behindInMarks .NotIn o = false := by rfl) : EE X Wx (.Compare i [.NotIn] [o] pos) (m2 (fDIn true) mk md) := PE.weak (pe_cmp (pc_tnotin hp hu hi ho) hm) fun σ H Q q => by
  refine TR.two (relC := relV X.K) (relB := relV X.K) (f := fDIn true) q fun W H e μ a b c d r z1 z2 p => ?_
  obtain ⟨ad, w, e1, g1, g2⟩ := l_din true r z1 z2 p
  exact ⟨ad, w, e1, g1, g2⟩
theorem et_din (hp : Cxp X) (hu : X.A.units + 1 < cLine) (hi : EE X Wx i mk) (ho : EE X Wx o md) (hm : behindInMarks .In o = false := by rfl) : ET X Wx (.Compare i [.In] [o] pos) (mTest (m2 (fDIn false) mk md)) := PT.weak (pt_cmp (pc_tin hp hu hi ho) hm) fun σ H Q q => by
  rw [test_m2] at q
  refine TR.two (relC := relB) (relB := relV X.K) (f := fun x y => mTest (fDIn false x y)) q fun W H e μ a b c d r z1 z2 p => ?_
  obtain ⟨ad, w, e1, g1, g2⟩ := l_dinB false r z1 z2 p
  exact ⟨ad, w, e1, g1, _, rfl, g2⟩
theorem et_dnotin (hp : Cxp X) (hu : X.A.units + 1 < cLine) (hi : EE X Wx i mk) (ho : EE X Wx o md) (hm : behindInMarks .NotIn o = false := by rfl) : ET X Wx (.Compare i [.NotIn] [o] pos) (mTest (m2 (fDIn true) mk md)) := PT.weak (pt_cmp (pc_tnotin hp hu hi ho) hm) fun σ H Q q => by
  rw [test_m2] at q
  refine TR.two (relC := relB) (relB := relV X.K) (f := fun x y => mTest (fDIn true x y)) q fun W H e μ a b c d r z1 z2 p => ?_
  obtain ⟨ad, w, e1, g1, g2⟩ := l_dinB true r z1 z2 p
  exact ⟨ad, w, e1, g1, _, rfl, g2⟩
/-! ### d[k] = v -/
def dPutD (ks vs : List D) (k v : D) : Option O := match keyT k with
  | some q => some (.dic true (dPut keyT ks vs q k v).1 (dPut keyT ks vs q k v).2)
  | none => none
def sDPutM (md mk mv : ME) : MS := sExp (mBind mv fun v => mBind md fun d => mBind mk fun k => fun e μ => .ok (v, d, k) e μ) fun x e μ => match contW e μ x.2.1 with
  | some (.dic true ks vs) => (match x.1.plain && Nat.ble ks.length 1000000, dPutD ks vs x.2.2 x.1 with
    | true, some o => .nx (putE e x.2.1 o) (putM μ x.2.1 o)
    | _, _ => .bad)
  | _ => .bad
theorem es_dput (hp : Cxp X) (hu : X.A.units + 1 < cLine) (ho : EE X Wx o md) (hi : EE X Wx i mk) (hv : EE X Wx ex mv) (hs : swapsWith ex (some (.Subscript o i pos')) pos.line X.env = pure false := by rfl) : ES X Wx (.Assign [.Subscript o i pos'] ex pos) (sDPutM md mk mv) :=
  PS.weak (ps_tput hp hu ho hi hv hs) fun D σ H q => by
    obtain ⟨W, e, μ, r, p⟩ := q
    unfold sDPutM sExp at p
    cases h1 : mv e μ with
    | bad => unfold mBind at p; rw [h1] at p; exact p.elim
    | ex x1 e1 μ1 =>
      unfold mBind at p
      rw [h1] at p
      exact ⟨W, e, μ, r, by rw [h1]; exact fun W1 H1 c d x r1 => p W1 H1 σ c d x r1⟩
    | ok v e1 μ1 =>
      refine ⟨W, e, μ, r, ?_⟩
      rw [h1]
      intro W1 H1 y x1 r1 z1
      refine ⟨W1, e1, μ1, r1, ?_⟩
      unfold mBind at p
      rw [h1] at p
      simp only [Rs.bind] at p
      cases h2 : md e1 μ1 with
      | bad => rw [h2] at p; exact p.elim
      | ex x2 e2 μ2 =>
        rw [h2] at p
        exact fun W2 H2 c d x r2 => p W2 H2 σ c d (x1.trans x) r2
      | ok d e2 μ2 =>
        rw [h2] at p
        intro W2 H2 yd x2 r2 z2
        refine ⟨W2, e2, μ2, r2, ?_⟩
        simp only at p
        cases h3 : mk e2 μ2 with
        | bad => rw [h3] at p; exact p.elim
        | ex x3 e3 μ3 =>
          rw [h3] at p
          exact fun W3 H3 c d x r3 => p W3 H3 σ c d ((x1.trans x2).trans x) r3
        | ok k e3 μ3 =>
          rw [h3] at p
          intro W3 H3 yk x3 r3 z3
          simp only at p
          have zv : RP X.K σ W3 H3 v y := RP.ext x3 (RP.ext x2 z1)
          have zd : RP X.K σ W3 H3 d yd := RP.ext x3 z2
          have xx := (x1.trans x2).trans x3
          cases c : contW e3 μ3 d with
          | none => rw [c] at p; exact p.elim
          | some ob =>
            rw [c] at p
            cases ob with
            | lst _ => exact p.elim
            | ins _ _ => exact p.elim
            | dic t ks vs =>
              cases t with
              | false => exact p.elim
              | true =>
                simp only at p
                cases c1 : v.plain && Nat.ble ks.length 1000000 with
                | false => rw [c1] at p; exact p.elim
                | true =>
                  cases c2 : dPutD ks vs k v with
                  | none => rw [c1, c2] at p; exact p.elim
                  | some o' =>
                    rw [c1, c2] at p
                    obtain ⟨c3, c4⟩ := Bool.and_eq_true_iff.mp c1
                    have hb : ks.length ≤ 1000000 := Nat.le_of_ble_eq_true c4
                    obtain ⟨a, rfl, ho', hF, hG⟩ := contW_ok r3 zd c
                    have zv' := zv.val c3
                    obtain ⟨ws, hm, ⟨oo, xs, k1, k2, k3, k4, k5⟩, g2⟩ := ho'
                    unfold dPutD at c2
                    cases ck : keyT k with
                    | none => rw [ck] at c2; cases c2
                    | some kk =>
                      rw [ck] at c2
                      cases c2
                      have zk : RV X.K W3 H3 k yk := by
                        cases k with
                        | loc i => cases ck
                        | _ => exact z3
                      obtain ⟨b, rfl, hb'⟩ := (keyT_ok ck yk).mp zk
                      have KLk := KL.ofT k3
                      have hl : xs.length < sizeLine := by
                        have := KLk.length
                        rw [List.length_map] at this
                        rw [sizeLine_eq]
                        omega
                      refine ⟨a, oo, xs, kk, b, rfl, k1, k2, k4, rfl, hb', hl, fun o' u ru ob => ?_⟩
                      obtain ⟨p1, p2⟩ := put_ok (kd := k) (b := b) zv' ru ck KLk (VX.of g2 k5)
                      have x4 : Ext W3 H3 W3 (upd H3 a (dTe a o')) := Ext.write hF hG (by rw [k1]; trivial)
                      obtain ⟨ws', w1, w2⟩ := (p2.ext x4).to
                      exact p W3 _ σ (xx.trans x4) (r3.write zd c ⟨ws', by rw [upd_same]; trivial, ⟨o', _, upd_same, ob, p1.toT, stored_addr (P := fun k b => TP (upd H3 a (dTe a o')) b (k.map kV)) (fun z hz => (k4 z hz).ext x4) (hb'.ext x4), w2⟩, w1⟩)
/-! ### {} -/
def mDNew : Ma O := fun e μ => .ok (.dic true [] []) e μ
theorem ef_dnew : EF X Wx (.Dict [] [] pos) mDNew := PE.weak pe_tnew fun σ H Q q => by
  obtain ⟨W, e, μ, r, p⟩ := q
  exact fun a o ha ob => Post.same p r (same_upd ha) ⟨a, rfl, fresh_new r ha ⟨[], by rw [upd_same]; trivial, ⟨o, [], upd_same, ob, rfl, fun _ z => (nomatch z), .nil⟩, rfl⟩⟩
end
end Ev

set_option maxRecDepth 100000
set_option maxHeartbeats 4000000
/-! Ev11: more of dicts; items(), enumerate, zip. -/
namespace EvT
open PySem
open AutoSeq1 (wpAny_loadPart')
/-! ### enumerate over a tuple, at the library's level -/
theorem meets_enumT (l : Addr) (c : Value) (items : Array Value) (n : Nat) (dct : Option Addr) (sl : Array (Option Value)) (hc : c = .type "tuple") :
    Meets (Builtin.«enumerate.__new__» ⟨[.type "enumerate", .ref l], []⟩) (fun _ R s => s.heap.get? l = some { cls := c, dict := dct, data := .seq items n, slots := sl } ∧
      R (.ok (.ret (.ref (s.heap.push { cls := .type "tuple_iterator", data := .fields #[.ref l, .int 0 0] }).objs.size)))
        { s with heap := (s.heap.push { cls := .type "tuple_iterator", data := .fields #[.ref l, .int 0 0] }).push { cls := .type "enumerate", data := .fields #[.none, .bool false, .ref s.heap.objs.size, rawInt 0, .none, .none] } }) := by
  subst hc
  exact .of_wp fun prog w A R s h => by
    obtain ⟨hp, g, d, tk, os⟩ := s
    obtain ⟨hl, h⟩ := h
    have sub := sub_enumerate
    have tp : Heap.IsTuple (Shared.heap ⟨hp, g, d, tk, os⟩) l items := ⟨_, hl, rfl, n, rfl⟩
    wp_walk using wpAny_loadPart' hl
    refine wpAny_stack_any fun st => wpAny_pure ?_
    split
    · rename_i c _ _ _ _ _
      cases (c == Value.type "enumerate") <;> (wp_walk using wpAny_loadPart' hl, wpAny_pyIter_tuple tp; exact ⟨_, rfl, h⟩)
    · wp_walk using wpAny_loadPart' hl, wpAny_pyIter_tuple tp
      exact ⟨_, rfl, h⟩
section
variable {prog : Program} {w : World} {A : Around} {E : Value → Shared → Prop} {s : Shared}
theorem call_enumT {l : Addr} {items : Array Value} {Q : Value → Shared → Prop} (hL : s.heap.IsTuple l items)
    (h : ∀ h', IsEnum h' (s.heap.objs.size + 1) s.heap.objs.size 0 .none → h'.IsTupleIter s.heap.objs.size l 0 → (∀ b o, s.heap.get? b = some o → h'.get? b = some o) → Q (.ref (s.heap.objs.size + 1)) { s with heap := h' }) :
    wpAny (model prog w) A (call (.type "enumerate") [.ref l]) Q E s := by
  obtain ⟨⟨c, dct, dt, sl⟩, hl, hc, n, hd⟩ := hL
  replace hd : dt = .seq items n := hd
  subst hd
  refine callType_new F.called_enumerate (by decide) (F.typeCall_enumerate_1 _) (F.newCall_enumerate_1 _) (fun obj => F.args_object_init_2 obj _) F.entry_enumerate_new (meets_enumT l c items n dct sl hc) ⟨hl, ?_⟩
  have hz : (s.heap.push { cls := .type "tuple_iterator", data := .fields #[.ref l, .int 0 0] }).objs.size = s.heap.objs.size + 1 := Heap.size_push ..
  show _ ∧ _
  rw [hz]
  have he : IsEnum ((s.heap.push { cls := .type "tuple_iterator", data := .fields #[.ref l, .int 0 0] }).push { cls := .type "enumerate", data := .fields #[.none, .bool false, .ref s.heap.objs.size, rawInt 0, .none, .none] })
      (s.heap.objs.size + 1) s.heap.objs.size 0 .none := by
    have q := Heap.get?_push_size (s.heap.push { cls := .type "tuple_iterator", data := .fields #[.ref l, .int 0 0] }) (o := { cls := .type "enumerate", data := .fields #[.none, .bool false, .ref s.heap.objs.size, rawInt 0, .none, .none] }) rfl
    rw [hz] at q
    exact q
  exact ⟨⟨_, he, rfl⟩, h _ he ⟨_, Heap.get?_push_of_some _ (Heap.get?_push_size _ rfl), rfl, rfl⟩ fun b o x => Heap.get?_push_of_some _ (Heap.get?_push_of_some _ x)⟩
end
theorem drawsT {prog : Program} {w : World} {A : Around} (hh : A.handled = none) (it l : Addr) (hne : l ≠ it) (items : Array Value) :
    Draws prog w A it [it, l] items.size (fun i v => items[i]? = some v) (fun i h => h.IsTupleIter it l i ∧ h.IsTuple l items) where
  live := fun _ _ st => let ⟨o, ho, _⟩ := st.1; ⟨o, ho⟩
  frame := fun _ _ _ ⟨⟨o, h1, h2⟩, ⟨o', h3, h4⟩⟩ hk => ⟨⟨o, hk it (by simp) o h1, h2⟩, ⟨o', hk l (by simp) o' h3, h4⟩⟩
  item := fun i s Q E hi st hQ => by
    refine RZ.nextOf_tuple_item st.1 st.2 (x := items[i]) (by simp [hi]) fun h' it' sb => ?_
    obtain ⟨o, h1, h2⟩ := st.2
    exact hQ _ h' s.toks (by simp [hi]) ⟨it', o, (sb.2 l hne).trans h1, h2⟩ sb
  done := fun s Q E st hE => RZ.nextOf_tuple_end hh st.1 st.2 (by simp) hE
end EvT

namespace Ev
open PySem PySem.Spec PyProof.Rows L2
variable [PWo]

theorem extBareSame {W : Wd} {H H' : Hp} (s : Same H H') : Ext W.bare H W.bare H' :=
  ⟨⟨[], by simp⟩, fun _ h => h, fun _ => Iff.rfl, fun b u _ _ z => Rd.same s z, fun b w _ z => s _ _ z, fun _ z => z.elim, fun _ _ z => s _ _ z, fun _ _ _ z => s _ _ z, fun _ _ _ z => s _ _ z⟩
/-! ### walks -/
/-- the tuple at a, each item in a new pair -/
def Itet (a : Addr) (vs : List V) : It :=
  ⟨fun i H => Rd H a (.tup vs) ∧ i < vs.length, fun i H v H' => ∃ T x, v = .ref T ∧ H T = none ∧ H' = upd H T (.tup [.int (i : Nat), x]) ∧ vs[i]? = some x, fun i H => Rd H a (.tup vs) ∧ vs.length ≤ i⟩
theorem rd_nn {H : Hp} {a : Addr} {u : HO} (h : Rd H a u) (z : H a = none) : False := by
  rcases h with h | ⟨o, h⟩ <;> (rw [z] at h; cases h)
theorem turn_enumT {P : Program} {w : World} {K : PySem.W.Frag} {elts : List Expr} {kk : Nat} {tpos : Pos} {vs : List V} (a e it : Addr) :
    Turn P w K (.Tuple elts kk tpos) (Itet a vs) [e, it] e (fun i h => (∃ old, IsEnum h e it ((i : Nat) : Int) old) ∧ h.IsTupleIter it a i ∧ e ≠ it) where
  mem := by simp
  obj := fun i h st b hb => by
    obtain ⟨⟨old, he⟩, ⟨o, ho, hc, hd⟩, _⟩ := st
    rcases (show b = e ∨ b = it by simpa using hb) with rfl | rfl
    · exact ⟨_, he, fun v q => nomatch q⟩
    · exact ⟨o, ho, fun v q => by rw [hd] at q; cases q⟩
  keep := fun i h h' st k => by
    obtain ⟨⟨old, he⟩, ⟨o, ho, hc⟩, hne⟩ := st
    exact ⟨⟨old, k e (by simp) _ he⟩, ⟨o, k it (by simp) o ho, hc⟩, hne⟩
  item := by
    intro X hP hw hK hc i pins s σ H E I hf st hg
    subst hP hw hK
    obtain ⟨⟨old, he⟩, hit, hne⟩ := st
    obtain ⟨ha, hi⟩ := hg
    obtain ⟨its, rv, p, hz⟩ := I.tuple (.inl ha)
    obtain ⟨u, hu, ru⟩ := rv.get (List.getElem?_eq_getElem hi)
    have hel : e < s.heap.objs.size := Heap.lt_size he
    have hil : it < s.heap.objs.size := by obtain ⟨_, q, _⟩ := hit; exact Heap.lt_size q
    have hai : a ≠ it := by
      rintro rfl
      exact rd_nn ha (hf a (by simp)).1
    have hea : e ∉ [it, a] := by
      intro z
      rcases (show e = it ∨ e = a by simpa using z) with z | z
      · exact hne z
      · subst z
        exact rd_nn ha (hf e (by simp)).1
    have hls : i < its.toArray.size := by
      have := rv.length
      simp
      omega
    refine wpAny_pyNext_enum_itemD (EvT.drawsT (show X.A.in1.handled = none from I.ok.hd hc) it a hai its.toArray) he ⟨hit, p⟩ hls hne hea fun x h' tk hx ho st' hT hsz hk => ?_
    have ex : x = u := by
      have q : its[i]? = some x := by simpa using hx
      rw [hu] at q
      exact (Option.some.inj q).symm
    subst ex
    refine ⟨_, rfl, wpAny_letOwnedTupleGo_enum (s := { s with heap := h', toks := tk + 1 }) ho fun h'' he' sb => ?_⟩
    have hT2 : h''.get? s.heap.objs.size = some { cls := .type "tuple", data := .seq #[.int i tk, x] } := (sb.2 _ (Nat.ne_of_gt hel)).trans hT
    have new : ObjOk X.prog X.w (upd H s.heap.objs.size (.tup [.int (i : Nat), vs[i]])) h'' s.heap.objs.size (.tup [.int (i : Nat), vs[i]]) :=
      ⟨by show 2 ≤ sizeLine; decide, [.int i tk, x], .cons ⟨_, rfl⟩ (.cons ru .nil), ⟨_, hT2, rfl, _, rfl⟩⟩
    have I1 : Inv X pins σ (upd H s.heap.objs.size (.tup [.int (i : Nat), vs[i]])) { s with heap := h'', toks := tk + 1 } :=
      I.turnedNew (ch := [e, it]) (fun b ob hb q => (sb.2 b (fun z => hb (by simp [z]))).trans (hk b ob (fun z => hb (by simp [z])) (fun z => hb (by simp [z])) q)) hf (Nat.le_refl _) new
    refine ⟨.ref s.heap.objs.size, _, I1, rfl, ⟨_, vs[i], rfl, I.hok.fresh (Nat.le_refl _), rfl, List.getElem?_eq_getElem hi⟩, ⟨⟨x, ?_⟩, ?_, hne⟩, fun b hb => ?_⟩
    · have e1 : ((i + 1 : Nat) : Int) = (i : Int) + 1 := by omega
      rw [e1]; exact he'
    · obtain ⟨o, h1, h2⟩ := st'.1
      exact ⟨o, (sb.2 it (Ne.symm hne)).trans h1, h2⟩
    · have hb' : b < s.heap.objs.size := by
        rcases (show b = e ∨ b = it by simpa using hb) with z | z
        · rw [z]; exact hel
        · rw [z]; exact hil
      rw [upd_ne (Nat.ne_of_lt hb')]
      exact (hf b hb).1
  done := by
    intro X hP hw hK hc i pins s σ H E I hf st hg
    subst hP hw hK
    obtain ⟨⟨old, he⟩, hit, hne⟩ := st
    obtain ⟨ha, hi⟩ := hg
    obtain ⟨its, rv, p, hz⟩ := I.tuple (.inl ha)
    obtain ⟨f0, f1, f2, f3, f4, f5⟩ := hf it (by simp)
    have hl := rv.length
    have D : Draws X.prog X.w X.A.in1 it [it, a] 0 (fun _ _ => True) (fun _ h => h.IsTupleIter it a i ∧ h.IsTuple a its.toArray) := {
      live := fun _ _ st => let ⟨o, ho, _⟩ := st.1; ⟨o, ho⟩
      frame := fun _ _ _ ⟨⟨o, h1, h2⟩, ⟨o', h3, h4⟩⟩ hk => ⟨⟨o, hk it (by simp) o h1, h2⟩, ⟨o', hk a (by simp) o' h3, h4⟩⟩
      item := fun _ _ _ _ h _ _ => absurd h (Nat.not_lt_zero _)
      done := fun s Q E st hE => RZ.nextOf_tuple_end (show X.A.in1.handled = none from I.ok.hd hc) st.1 st.2 (by simp; omega) hE }
    exact wpAny_pyNext_enum_endD D he ⟨hit, p⟩ fun h' eb => ⟨rfl, I.turned (t' := s.toks) (fun b o hb q => eb b o hb q) f0 f1 f3 f4 f5⟩
  self := fun A i s Q E st h => let ⟨⟨_, he⟩, _⟩ := st; wpAny_pyIter_enum he h

def iEnumT (ta : TA) : TI := fun σ H R => ta σ H fun ws H1 => ∃ a vs, ws = [.ref a] ∧ Rd H1 a (.tup vs) ∧ R (Itet a vs) H1
theorem pi_enumT {X : Cx} {e : Expr} {ta : TA} {p pos tpos : Pos} {elts : List Expr} {kk : Nat} (hg : Gl X "enumerate") (hm : X.mg "enumerate" = none) (ha : PA X [e] ta) (hs : starEach [e] X.env = [(false, eval e X.env)] := by rfl) :
    PI X (.Tuple elts kk tpos) (.Call (.Name "enumerate" p) [e] [] pos) (iEnumT ta) := by
  refine ⟨fun pins s σ H R I h => ?_⟩
  refine Call_ (ld_blt I hg hm boot_enumerate (PyProof.Rows.callWith_type1 (thn (ha.run pos pins s σ H _ I h) fun us s1 ⟨ws, H1, I1, r1, q1⟩ => ?_) hs rfl))
  obtain ⟨a, vs, ex, ha, q⟩ := q1
  subst ex
  cases r1 with
  | cons r rr =>
    cases rr
    cases r
    obtain ⟨its, rv, tp, hz⟩ := I1.tuple (.inl ha)
    refine EvT.call_enumT tp fun h' he hit hk => wpAny_pyIter_enum he ?_
    have I2 : Inv X pins σ H1 { s1 with heap := h' } := I1.kept (t' := s1.toks) hk
    refine ⟨s1.heap.objs.size + 1, [s1.heap.objs.size + 1, s1.heap.objs.size], _, _, H1, rfl, I2, turn_enumT a (s1.heap.objs.size + 1) s1.heap.objs.size, ⟨⟨.none, he⟩, hit, Nat.succ_ne_self _⟩, fun b hb => ?_, q⟩
    have hle : s1.heap.objs.size ≤ b := by
      rcases (show b = s1.heap.objs.size + 1 ∨ b = s1.heap.objs.size by simpa using hb) with z | z
      · rw [z]; exact Nat.le_add_right _ _
      · rw [z]; exact Nat.le_refl _
    exact I1.fpOk hle (I1.hok.fresh hle)
/-- enumerate's pairs -/
def enumD : Nat → List D → List D
  | _, [] => []
  | i, d :: ds => .ktp [.int (i : Int), d] :: enumD (i + 1) ds
theorem enumD_len : ∀ (i : Nat) (ds : List D), (enumD i ds).length = ds.length
  | _, [] => rfl
  | i, d :: ds => by rw [enumD, List.length_cons, List.length_cons, enumD_len]
theorem enumD_get : ∀ (ds : List D) (k i : Nat), (enumD k ds)[i]? = (ds[i]?).map fun d => .ktp [.int ((k + i : Nat) : Int), d]
  | [], _, i => by simp [enumD]
  | d :: ds, k, 0 => by simp [enumD]
  | d :: ds, k, i + 1 => by
    rw [enumD, List.getElem?_cons_succ, List.getElem?_cons_succ, enumD_get ds (k + 1) i]
    have e : k + 1 + i = k + (i + 1) := by omega
    rw [e]
section
variable {K : PySem.W.Frag} {W : Wd} {H : Hp}
theorem pair_rv {H2 : Hp} {T : Addr} {d : D} {u v : V} {i : Int} (hT : H2 T = some (.tup [u, v])) (h1 : u = .int i) (h2 : RV K W H2 d v) : RV K W H2 (.ktp [.int i, d]) (.ref T) :=
  ⟨T, _, rfl, .inl hT, u, [v], rfl, h1, v, [], rfl, h2, rfl⟩
theorem itet_ok {a : Addr} {vs : List V} {ds : List D} (h : TP H a vs) (g : RVs K W H ds vs) : ItOk K W H (Itet a vs) (enumD 0 ds) := fun i W1 H1 x => by
  have h1 : Rd H1 a (.tup vs) := let ⟨ob, k, _⟩ := h.ext x; .inr ⟨ob, k⟩
  have g1 := RVs.unbare (RVs.ext x _ _ (RVs.tobare g))
  have hl := RVs.length g
  rw [enumD_len]
  refine ⟨fun hi => ⟨⟨h1, by omega⟩, fun y H2 ⟨T, v, e1, e2, e3, e4⟩ => ?_⟩, fun hi => ⟨h1, by omega⟩⟩
  obtain ⟨v', k1, k2⟩ := RVs.get g1 (List.getElem?_eq_getElem hi)
  rw [k1] at e4
  cases e4
  subst e1 e3
  have s := same_upd (o := .tup [.int (i : Nat), v]) e2
  refine ⟨s, .ktp [.int ((0 + i : Nat) : Int), ds[i]], ?_, rfl, ?_⟩
  · rw [enumD_get, List.getElem?_eq_getElem hi]
    rfl
  · have e0 : 0 + i = i := Nat.zero_add i
    rw [e0]
    refine pair_rv upd_same rfl ?_
    exact RV.unbare (RV.ext (extBareSame s) _ _ (RV.tobare k2))
end
section
variable {K : PySem.W.Frag} {W : Wd} {H : Hp}
theorem ite_ok {a : Addr} {vs : List V} {ds : List D} (h : ∀ W1 H1, Ext W.bare H W1 H1 → SqL K H1 a vs) (g : RVs K W H ds vs) : ItOk K W H (Ite K a) (enumD 0 ds) := fun i W1 H1 x => by
  have h1 := h W1.bare H1 x
  have g1 := RVs.unbare (RVs.ext x _ _ (RVs.tobare g))
  have hl := RVs.length g
  rw [enumD_len]
  refine ⟨fun hi => ?_, fun hi => ⟨vs, h1, by omega⟩⟩
  obtain ⟨v', k1, k2⟩ := RVs.get g1 (List.getElem?_eq_getElem hi)
  refine ⟨⟨vs, v', h1, k1⟩, fun y H2 ⟨T, v, e1, e2, e3, e4⟩ => ?_⟩
  have e5 := e4 vs h1
  rw [k1] at e5
  cases e5
  subst e1 e3
  have s := same_upd (o := .tup [.int (i : Nat), v']) e2
  refine ⟨s, .ktp [.int ((0 + i : Nat) : Int), ds[i]], ?_, rfl, ?_⟩
  · rw [enumD_get, List.getElem?_eq_getElem hi]
    rfl
  · have e0 : 0 + i = i := Nat.zero_add i
    rw [e0]
    exact pair_rv upd_same rfl (RV.unbare (RV.ext (extBareSame s) _ _ (RV.tobare k2)))
end
section
variable {X : Cx} {Wx : WX} {e e2 : Expr} {ml : Ma (List D)} {p pos tpos : Pos} {elts : List Expr} {kk : Nat}
def fEnumT (d : D) : Ma (List D) := fun e μ => match d with
  | .tup xs => .ok (enumD 0 xs) e μ
  | _ => .bad
def fEnumL (d : D) : Ma (List D) := fun e μ => match d with
  | .lst xs => .ok (enumD 0 xs) e μ
  | .scr xs => .ok (enumD 0 xs) e μ
  | _ => .bad
theorem ei_enumT (hg : Gl X "enumerate") (hm : X.mg "enumerate" = none) (ha : EA X Wx [e] ml) (hs : starEach [e] X.env = [(false, eval e X.env)] := by rfl) : EI X Wx (.Tuple elts kk tpos) (.Call (.Name "enumerate" p) [e] [] pos) (mBind ml (one fEnumT)) :=
  PI.weak (pi_enumT hg hm ha hs) fun σ H R q => TR.one q fun W H e μ ds vs r z p => by
    obtain ⟨d, v, rfl, rfl, h1, p⟩ := one_ok z p
    cases d with
    | tup xs =>
      obtain ⟨a, ws, rfl, g1, g2⟩ := h1
      exact ⟨a, ws, rfl, (let ⟨ob, k, _⟩ := g1; .inr ⟨ob, k⟩), Post.ok p r (itet_ok g1 g2)⟩
    | _ => exact p.elim
theorem ei_enumL (hg : Gl X "enumerate") (hm : X.mg "enumerate" = none) (ha : EA X Wx [e] ml) (hs : starEach [e] X.env = [(false, eval e X.env)] := by rfl) : EI X Wx (.Tuple elts kk tpos) (.Call (.Name "enumerate" p) [e] [] pos) (mBind ml (one fEnumL)) :=
  PI.weak (pi_enum hg hm ha hs) fun σ H R q => TR.one q fun W H e μ ds vs r z p => by
    obtain ⟨d, v, rfl, rfl, h1, p⟩ := one_ok z p
    cases d with
    | lst xs =>
      obtain ⟨a, ws, rfl, hF, g1, g2⟩ := h1
      exact ⟨a, ws, rfl, .inl (.inl g1), Post.ok p r (ite_ok (fun W1 H1 x => .inl (.inl (x.kL a ws hF g1))) g2)⟩
    | scr xs =>
      obtain ⟨a, ws, rfl, g1, g2⟩ := h1
      exact ⟨a, ws, rfl, scrL g1, Post.ok p r (ite_ok (fun W1 H1 x => scrX (W := W.bare) x g1) g2)⟩
    | _ => exact p.elim
end
/-! ### zip of two lists -/
def zipD : List D → List D → List D
  | a :: as, b :: bs => .ktp [a, b] :: zipD as bs
  | _, _ => []
theorem zipD_len : ∀ (as bs : List D), (zipD as bs).length = min as.length bs.length
  | [], bs => by simp [zipD]
  | a :: as, [] => by simp [zipD]
  | a :: as, b :: bs => by
    rw [zipD, List.length_cons, List.length_cons, List.length_cons, zipD_len as bs]
    omega
theorem zipD_get : ∀ (as bs : List D) (i : Nat) (a b : D), as[i]? = some a → bs[i]? = some b → (zipD as bs)[i]? = some (.ktp [a, b])
  | [], _, i, a, b, h, _ => by simp at h
  | _ :: _, [], i, a, b, _, h => by simp at h
  | x :: as, y :: bs, 0, a, b, h1, h2 => by
    simp at h1 h2
    subst h1 h2
    rfl
  | x :: as, y :: bs, i + 1, a, b, h1, h2 => by
    rw [zipD, List.getElem?_cons_succ]
    exact zipD_get as bs i a b (by simpa using h1) (by simpa using h2)
/-- a list that stays as it is -/
def isLs : D → Option (List D)
  | .lst xs => some xs
  | .scr xs => some xs
  | _ => none
theorem isLs_ok {K : PySem.W.Frag} {σ : St} {W : Wd} {H : Hp} {d : D} {v : V} {xs : List D} (h : RP K σ W H d v) (q : isLs d = some xs) : ∃ a vs, v = .ref a ∧ RVs K W H xs vs ∧ SqL K H a vs ∧ ∀ W1 H1, Ext W.bare H W1 H1 → SqL K H1 a vs := by
  cases d with
  | lst ys =>
    cases q
    obtain ⟨a, ws, rfl, hF, g1, g2⟩ := h
    exact ⟨a, ws, rfl, g2, .inl (.inl g1), fun W1 H1 x => .inl (.inl (x.kL a ws hF g1))⟩
  | scr ys =>
    cases q
    obtain ⟨a, ws, rfl, g1, g2⟩ := h
    exact ⟨a, ws, rfl, g2, scrL g1, fun W1 H1 x => scrX (W := W.bare) x g1⟩
  | _ => cases q
def fZip (a b : D) : Ma (List D) := fun e μ => match isLs a, isLs b with
  | some xs, some ys => .ok (zipD xs ys) e μ
  | _, _ => .bad
section
variable {K : PySem.W.Frag} {W : Wd} {H : Hp}
theorem itz_ok {a b : Addr} {vs ws : List V} {xs ys : List D} (h1 : ∀ W1 H1, Ext W.bare H W1 H1 → SqL K H1 a vs) (h2 : ∀ W1 H1, Ext W.bare H W1 H1 → SqL K H1 b ws) (g1 : RVs K W H xs vs) (g2 : RVs K W H ys ws) : ItOk K W H (Itz K a b) (zipD xs ys) := fun i W1 H1 x => by
  have k1 := h1 W1.bare H1 x
  have k2 := h2 W1.bare H1 x
  have f1 := RVs.unbare (RVs.ext x _ _ (RVs.tobare g1))
  have f2 := RVs.unbare (RVs.ext x _ _ (RVs.tobare g2))
  have l1 := RVs.length g1
  have l2 := RVs.length g2
  rw [zipD_len]
  refine ⟨fun hi => ?_, fun hi => ⟨vs, ws, k1, k2, by omega⟩⟩
  have i1 : i < xs.length := by omega
  have i2 : i < ys.length := by omega
  obtain ⟨v, m1, m2⟩ := RVs.get f1 (List.getElem?_eq_getElem i1)
  obtain ⟨u, n1, n2⟩ := RVs.get f2 (List.getElem?_eq_getElem i2)
  refine ⟨⟨vs, ws, v, u, k1, k2, m1, n1⟩, fun y H2 ⟨T, v', u', e1, e2, e3, e4, e5⟩ => ?_⟩
  have q1 := e4 vs k1
  have q2 := e5 ws k2
  rw [m1] at q1
  rw [n1] at q2
  cases q1
  cases q2
  subst e1 e3
  have s := same_upd (o := .tup [v, u]) e2
  have up : ∀ {d : D} {z : V}, RV K W1 H1 d z → RV K W1 (upd H1 T (.tup [v, u])) d z := fun k => RV.unbare (RV.ext (extBareSame s) _ _ (RV.tobare k))
  exact ⟨s, .ktp [xs[i], ys[i]], zipD_get _ _ _ _ _ (List.getElem?_eq_getElem i1) (List.getElem?_eq_getElem i2), rfl, T, _, rfl, .inl upd_same, v, [u], rfl, up m2, u, [], rfl, up n2, rfl⟩
end
section
variable {X : Cx} {Wx : WX} {e e2 : Expr} {ml : Ma (List D)} {p pos tpos : Pos} {elts : List Expr} {kk : Nat}
theorem ei_zip (hg : Gl X "zip") (hm : X.mg "zip" = none) (ha : EA X Wx [e, e2] ml) (hs : starEach [e, e2] X.env = (false, eval e X.env) :: starEach [e2] X.env := by rfl) (hpl : (backTo pos (starEach [e2] X.env)).any (·.1) = false := by rfl) :
    EI X Wx (.Tuple elts kk tpos) (.Call (.Name "zip" p) [e, e2] [] pos) (mBind ml (two fZip)) :=
  PI.weak (pi_zip hg hm ha hs hpl) fun σ H R q => TR.one q fun W H e μ ds vs r z p => by
    obtain ⟨d, d', v, v', rfl, h1, h2, p⟩ := two_ok z p
    unfold fZip at p
    cases c1 : isLs d with
    | none => rw [c1] at p; exact p.elim
    | some xs =>
      cases c2 : isLs d' with
      | none => rw [c1, c2] at p; exact p.elim
      | some ys =>
        rw [c1, c2] at p
        obtain ⟨a, ws, rfl, g1, g2, g3⟩ := isLs_ok h1 c1
        obtain ⟨b, us, rfl, k1, k2, k3⟩ := isLs_ok h2 c2
        exact ⟨a, b, ws, us, rfl, g2, k2, Post.ok p r (itz_ok g3 k3 g1 k1)⟩
end
/-! ### d.items() of a frozen dict with tuple keys -/
def Itit (d : Addr) (o : Obj) (xs : List (List Key × Addr × Value)) : It :=
  ⟨fun i H => (H d = some (dTe d o) ∧ ObT d o xs) ∧ i < xs.length, fun i H x H' => ∃ T y v, xs[i]? = some y ∧ x = .ref T ∧ H T = none ∧ RelV v y.2.2 ∧ H' = upd H T (.tup [.ref y.2.1, v]), fun i H => (H d = some (dTe d o) ∧ ObT d o xs) ∧ xs.length ≤ i⟩
theorem ent_at {d : Addr} {o : Obj} {xs : List (List Key × Addr × Value)} {es : Array DictEntry} {ep : Nat} (h : ObT d o xs) (hd : o.data = .dict es ep) : es.size = xs.length ∧ ∀ (i : Nat) (y : List Key × Addr × Value), xs[i]? = some y → ∃ hi : i < es.size, es[i].key = .ref y.2.1 ∧ es[i].val = y.2.2 := by
  obtain ⟨es', ep', e1, e2⟩ := h.en
  rw [hd] at e1
  cases e1
  have l1 : es.size = xs.length := size_of_entries e2
  refine ⟨l1, fun i y e => ?_⟩
  have hi : i < es.size := by
    have := (List.getElem?_eq_some_iff.mp e).1
    omega
  have q := entry_at e2 i
  rw [e, Array.getElem?_eq_getElem hi] at q
  have q' : es[i] = entryOfKey (tupleKind (mixKind PWo.P PWo.w)) y := Option.some.inj q
  exact ⟨hi, by rw [q']; rfl, by rw [q']; rfl⟩
theorem raw_at {X : Cx} {pins : List (Addr × Obj)} {σ : St} {H : Hp} {s : Shared} {d : Addr} {o : Obj} {xs : List (List Key × Addr × Value)} {es : Array DictEntry} {ep : Nat} (I : Inv X pins σ H s) (h : H d = some (dTe d o)) (ob : ObT d o xs) (hd : o.data = .dict es ep) : DT.Raw s.heap d es ep ∧ s.heap.get? d = some o :=
  ⟨⟨o, (I.hok d _ h).1, ob.ex, hd⟩, (I.hok d _ h).1⟩
theorem turn_itemsT {P : Program} {w : World} {K : PySem.W.Frag} {elts : List Expr} {kk : Nat} {tpos : Pos} {d : Addr} {o : Obj} {es : Array DictEntry} {ep : Nat} {xs : List (List Key × Addr × Value)} (hv : ∃ vs, Vals vs (xs.map (·.2.2))) (it : Addr) (hod : o.data = .dict es ep) :
    Turn P w K (.Tuple elts kk tpos) (Itit d o xs) [it] it (fun i h => ∃ ok ov, IsItemIter h it d i es.size ep ok ov) where
  mem := by simp
  obj := fun i h st b hb => by
    obtain rfl : b = it := by simpa using hb
    obtain ⟨ok, ov, e⟩ := st
    exact ⟨_, e, fun v z => nomatch z⟩
  keep := fun i h h' st k => let ⟨ok, ov, e⟩ := st; ⟨ok, ov, k it (by simp) _ e⟩
  item := by
    intro X hP hw hK hc i pins s σ H E I hf st hg
    subst hP hw hK
    obtain ⟨⟨hd, ob⟩, hi⟩ := hg
    obtain ⟨raw, _⟩ := raw_at I hd ob hod
    obtain ⟨hsz, ent⟩ := ent_at ob hod
    have hy := List.getElem?_eq_getElem hi
    obtain ⟨hie, hkey, hval⟩ := ent i _ hy
    obtain ⟨vs, hvs⟩ := hv
    have hl := hvs.length
    rw [List.length_map] at hl
    have hev : (xs.map (·.2.2))[i]? = some xs[i].2.2 := by rw [List.getElem?_map, hy]; rfl
    obtain ⟨v, ev⟩ : ∃ v, vs[i]? = some v := ⟨vs[i], List.getElem?_eq_getElem (by omega)⟩
    obtain ⟨u, hu, ru⟩ := hvs.get ev
    rw [hev] at hu
    cases hu
    obtain ⟨ok, ov, he⟩ := st
    have hlt : it < s.heap.objs.size := Heap.lt_size he
    refine DT.nextI he raw hie fun h' ho hT hz' hk => ?_
    refine ⟨_, rfl, wpAny_letOwnedTupleGo_items (s := { s with heap := h' }) ho fun h'' he' sb => ?_⟩
    have hT2 : h''.get? s.heap.objs.size = some { cls := .type "tuple", data := .seq #[es[i].key, es[i].val] } := (sb.2 _ (Nat.ne_of_gt hlt)).trans hT
    have new : ObjOk X.prog X.w (upd H s.heap.objs.size (.tup [.ref xs[i].2.1, v])) h'' s.heap.objs.size (.tup [.ref xs[i].2.1, v]) :=
      ⟨by show 2 ≤ sizeLine; decide, [es[i].key, es[i].val], .cons hkey (.cons (by rw [hval]; exact ru) .nil), ⟨_, hT2, rfl, _, rfl⟩⟩
    have I1 : Inv X pins σ (upd H s.heap.objs.size (.tup [.ref xs[i].2.1, v])) { s with heap := h'' } :=
      I.turnedNew (t' := s.toks) (ch := [it]) (fun b ob hb e => (sb.2 b (by simpa using hb)).trans (hk b ob (by simpa using hb) e)) hf (Nat.le_refl _) new
    refine ⟨.ref s.heap.objs.size, _, I1, rfl, ⟨_, xs[i], v, hy, rfl, I.hok.fresh (Nat.le_refl _), ru, rfl⟩, ⟨_, _, he'⟩, fun b hb => ?_⟩
    obtain rfl : b = it := by simpa using hb
    rw [upd_ne (Nat.ne_of_lt hlt)]
    exact (hf b (by simp)).1
  done := by
    intro X hP hw hK hc i pins s σ H E I hf st hg
    subst hP hw hK
    obtain ⟨⟨hd, ob⟩, hi⟩ := hg
    obtain ⟨f0, f1, f2, f3, f4, f5⟩ := hf it (by simp)
    obtain ⟨raw, _⟩ := raw_at I hd ob hod
    obtain ⟨hsz, ent⟩ := ent_at ob hod
    obtain ⟨ok, ov, he⟩ := st
    exact DT.endI (I.ok.hd hc) he raw (by omega) fun h' eb => ⟨rfl, I.turned (t' := s.toks) (fun b ob hb e => eb b ob hb e) f0 f1 f3 f4 f5⟩
  self := fun A i s Q E st h => let ⟨_, _, e⟩ := st; PySem.W.kcp_self e h
def iItemsT (td : TE) : TI := fun σ H R => td σ H fun x H1 => ∃ d o xs vs, x = .ref d ∧ H1 d = some (dTe d o) ∧ ObT d o xs ∧ Vals vs (xs.map (·.2.2)) ∧ R (Itit d o xs) H1
theorem pi_itemsT {X : Cx} {e : Expr} {td : TE} {elts : List Expr} {kk : Nat} {tpos apos cpos : Pos} (he : PE X e td) (hbase : attributeBase e "items" X.env (eval e X.env) = eval e X.env := by rfl) (hline : (apos.endLine == cpos.line) = true := by rfl) :
    PI X (.Tuple elts kk tpos) (.Call (.Attribute e "items" apos) [] [] cpos) (iItemsT td) := by
  refine ⟨fun pins s σ H R I h => ?_⟩
  refine wpAny_Call_method (T := "dict") (id := "dict.items") hbase rfl hline F.plainAttrs_dict F.slot_dict_items F.type_dict_items (thn (he.run pins s σ H _ I h) fun u s1 ⟨x, H1, I1, rx, d, o, xs, vs, ex, hd, ob, hv, q⟩ => ?_)
  subst ex
  obtain rfl : u = Value.ref d := rx
  obtain ⟨es, ep, hdt, _⟩ := ob.en
  obtain ⟨raw, hgd⟩ := raw_at I1 hd ob hdt
  refine ⟨raw.typeIs, fun b hb => by cases hb; exact ⟨o, hgd, ob.ex.2.1⟩, ?_⟩
  have I3 : Inv X pins σ H1 { s1 with heap := s1.heap.push { cls := .type "dict_items", data := .fields #[.ref d] } } := I1.kept (t' := s1.toks) fun b ob q => Heap.get?_push_of_some _ q
  have fin : wpAny (model X.prog X.w) X.A (pyIter (.ref s1.heap.objs.size)) (PIE X pins σ (.Tuple elts kk tpos) R) X.xe { s1 with heap := s1.heap.push { cls := .type "dict_items", data := .fields #[.ref d] } } := by
    refine DT.iterI (d := d) ⟨_, Heap.get?_push_size _ rfl, rfl, rfl⟩ (raw.push _) (pi_one (tk := s1.toks) I3 _ (turn_itemsT ⟨vs, hv⟩ _ hdt) ⟨.none, .none, ?_⟩ q)
    exact Heap.get?_push_size _ rfl
  show wpAny _ _ (callWith cpos (.builtin "dict.items") [.ref d] [] []) _ X.xe s1
  exact method_meetsIn F.slot_dict_items F.entry_dict_items rfl (PySem.evalArgs_none ⟨rfl, raw.typeIs, F.args_dict_items_1 _, _, DT.meetsItems (es := es) (ep := ep) ob.sys, raw, fin⟩)
def itemsD : List D → List D → List D
  | k :: ks, v :: vs => .ktp [k, v] :: itemsD ks vs
  | _, _ => []
def fItems (d : D) : Ma (List D) := fun e μ => match d with
  | .dic true ks vs => .ok (itemsD ks vs) e μ
  | _ => .bad
theorem itemsD_get : ∀ (ks vs : List D) (i : Nat) (a b : D), ks[i]? = some a → vs[i]? = some b → (itemsD ks vs)[i]? = some (.ktp [a, b])
  | [], _, i, a, b, h, _ => by simp at h
  | _ :: _, [], i, a, b, _, h => by simp at h
  | x :: as, y :: bs, 0, a, b, h1, h2 => by
    simp at h1 h2
    subst h1 h2
    rfl
  | x :: as, y :: bs, i + 1, a, b, h1, h2 => by
    rw [itemsD, List.getElem?_cons_succ]
    exact itemsD_get as bs i a b (by simpa using h1) (by simpa using h2)
theorem itemsD_len : ∀ (as bs : List D), as.length = bs.length → (itemsD as bs).length = as.length
  | [], _, _ => rfl
  | a :: as, [], h => by simp at h
  | a :: as, b :: bs, h => by
    rw [itemsD, List.length_cons, List.length_cons, itemsD_len as bs (by simpa using h)]
theorem itit_ok {K : PySem.W.Frag} {W : Wd} {H : Hp} {d : Addr} {o : Obj} {xs : List (List Key × Addr × Value)} {ks vs : List D} (h : H d = some (dTe d o)) (hF : W.F d) (ob : ObT d o xs) (hk : keysT ks = some (xs.map (·.1))) (ht : ∀ x ∈ xs, TP H x.2.1 (x.1.map kV)) (g : VX K W H vs xs) : ItOk K W H (Itit d o xs) (itemsD ks vs) := fun i W1 H1 x => by
  have h1 := x.kE d _ hF h
  have g1 : VX K W1.bare H1 vs xs := VX.ext x (by
    obtain ⟨ws, a1, a2⟩ := g.to
    exact VX.of (RVs.tobare a1) a2)
  have KLk := KL.ofT hk
  have l1 : ks.length = xs.length := by rw [KLk.length, List.length_map]
  have l2 : vs.length = xs.length := g.length
  rw [itemsD_len ks vs (by omega)]
  refine ⟨fun hi => ⟨⟨⟨h1, ob⟩, by omega⟩, fun y H2 ⟨T, z, v, e1, e2, e3, e4, e5⟩ => ?_⟩, fun hi => ⟨⟨h1, ob⟩, by omega⟩⟩
  have ek : (xs.map (·.1))[i]? = some z.1 := by rw [List.getElem?_map, e1]; rfl
  obtain ⟨kd, m1, m2⟩ := KLk.get ek
  obtain ⟨d', v', n1, n2, n3⟩ := VX.get (i := i) (x := z) g1 e1
  have ev : v = v' := RelV.inj e4 n3
  subst ev
  subst e2 e5
  have s := same_upd (o := .tup [.ref z.2.1, v]) e3
  have up : ∀ {d : D} {w : V}, RV K W1 H1 d w → RV K W1 (upd H1 T (.tup [.ref z.2.1, v])) d w := fun k => RV.unbare (RV.ext (extBareSame s) _ _ (RV.tobare k))
  exact ⟨s, .ktp [kd, d'], itemsD_get _ _ _ _ _ m1 n1, rfl, T, _, rfl, .inl upd_same, .ref z.2.1, [v], rfl, up ((keyT_ok m2 _).mpr ⟨_, rfl, (ht z (List.mem_of_getElem? e1)).ext x⟩), v, [], rfl, up (RV.unbare n2), rfl⟩
section
variable {X : Cx} {Wx : WX} {e : Expr} {m : ME} {elts : List Expr} {kk : Nat} {tpos apos cpos : Pos}
theorem ei_items (he : EE X Wx e m) (hbase : attributeBase e "items" X.env (eval e X.env) = eval e X.env := by rfl) (hline : (apos.endLine == cpos.line) = true := by rfl) : EI X Wx (.Tuple elts kk tpos) (.Call (.Attribute e "items" apos) [] [] cpos) (mBind m fItems) :=
  PI.weak (pi_itemsT he hbase hline) fun σ H R q => TR.one q fun W H e μ d v r z p => by
    cases d with
    | dic t ks vs =>
      cases t with
      | false => exact p.elim
      | true =>
        obtain ⟨a, ws, rfl, hF, ⟨o, xs, g1, g2, g3, g4, g5⟩, g6⟩ := z
        exact ⟨a, o, xs, ws, rfl, g1, g2, g5, Post.ok p r (itit_ok g1 hF g2 g3 g4 (VX.of g6 g5))⟩
    | _ => exact p.elim
end
/-! ### d.get(k, x); {k: v} -/
def isDic (e : En) (μ : Mu) (d : D) : Bool := match contE e μ d with
  | some (.dic true _ _) => true
  | _ => false
def fDGet2 (d k z : D) : ME := fun e μ => match dAt e μ d k with
  | some (some v) => .ok v e μ
  | some none => .ok z e μ
  | none => .bad
def mDGet2 (md mk mz : ME) : ME := mBind md fun d e μ => match isDic e μ d with
  | true => mBind mk (fun k => mBind mz fun z => fDGet2 d k z) e μ
  | false => .bad
def IsDT (H : Hp) (a : Addr) : Prop := ∃ o xs, H a = some (dTe a o) ∧ ObT a o xs
def tTGet2 (td ty tx : TE) : TE := fun σ H Q => td σ H fun x H1 => ∃ a, x = .ref a ∧ IsDT H1 a ∧ ty σ H1 fun y H2 => tx σ H2 fun z H3 => ∃ r, DG H3 a y r ∧ Q (r.getD z) H3
section
variable {X : Cx} {Wx : WX} {o e f : Expr} {apos cpos : Pos} {td ty tx : TE} {md mk mz : ME}
theorem pe_tget2 (hp : Cxp X) (hu : X.A.units + 1 < cLine) (ho : PE X o td) (he : PE X e ty) (hf : PE X f tx) (m : M2 X o "get" apos e f cpos) : PE X (.Call (.Attribute o "get" apos) [e, f] [] cpos) (tTGet2 td ty tx) := by
  refine ⟨fun pins s σ H Q I h => ?_⟩
  refine wpAny_Call_method m.base m.few m.line PySem.F.plainAttrs_dict PySem.F.slot_dict_get PySem.F.type_dict_get (thn (ho.run pins s σ H _ I h) fun u s1 ⟨x, H1, I1, rx, a, ex, ⟨oo, xs, h1, h2⟩, q1⟩ => ?_)
  subst ex
  obtain rfl : u = Value.ref a := rx
  obtain ⟨es, ep, hdt, _⟩ := h2.en
  obtain ⟨raw, hgd⟩ := raw_at I1 h1 h2 hdt
  refine ⟨raw.typeIs, fun b hb => by cases hb; exact ⟨oo, hgd, h2.ex.2.1⟩, ?_⟩
  rw [m.trees]
  refine Calls.callWith_builtin rfl (Calls.evalArgs_plain (Calls.spliced_cons (thn (he.run pins s1 σ H1 _ I1 q1) fun iv s2 ⟨y, H2, I2, ry, q2⟩ =>
    Calls.spliced_cons (thn (hf.run pins s2 σ H2 _ I2 q2) fun fv s3 ⟨z, H3, I3, rz, r, g, q3⟩ => Calls.spliced_nil ?_))))
  obtain ⟨oo, xs, k, b, h1, h2, h3, rfl, h4, h5⟩ := g
  cases (show iv = Value.ref b from ry)
  have dd := (dT_at hp I3 h1 h2 h3).2
  exact call_meetsIn PySem.F.slot_dict_get dd.typeIs PySem.F.entry_dict_get (PySem.F.args_dict_get_3 _ _ _) (meetsH_dict_get_default (tupleKind (mixKind X.prog X.w)) a b h2.sys fv) ⟨tupleKind_room_in1 hu, k, xs, key_tp I3 h4, dd, ⟨r.getD z, H3, I3.tok _, RelO.getD h5 rz, q3⟩⟩
theorem ee_dget2 (hp : Cxp X) (hu : X.A.units + 1 < cLine) (ho : EE X Wx o md) (he : EE X Wx e mk) (hf : EE X Wx f mz) (m : M2 X o "get" apos e f cpos := by exact ⟨rfl, rfl, rfl, rfl⟩) : EE X Wx (.Call (.Attribute o "get" apos) [e, f] [] cpos) (mDGet2 md mk mz) := PE.weak (pe_tget2 hp hu ho he hf m) fun σ H Q q =>
  TR.one q fun W H e μ d v r z p => by
    cases c : isDic e μ d with
    | false => rw [c] at p; exact p.elim
    | true =>
      rw [c] at p
      unfold isDic at c
      cases cc : contE e μ d with
      | none => rw [cc] at c; cases c
      | some ob =>
        rw [cc] at c
        cases ob with
        | lst _ => cases c
        | ins _ _ => cases c
        | dic t ks vs =>
          cases t with
          | false => cases c
          | true =>
            obtain ⟨a, ea, ws, ⟨oo, xs, g1, g2, _⟩, _⟩ := cont_ok r z cc
            refine ⟨a, ea, ⟨oo, xs, g1, g2⟩, W, e, μ, r, (Post.bind p).mono fun y H1 ⟨W1, k, e1, μ1, r1, z1, x1, p1⟩ => ?_⟩
            refine ⟨W1, e1, μ1, r1, (Post.bind p1).mono fun w H2 ⟨W2, zz, e2, μ2, r2, z2, x2, p2⟩ => ?_⟩
            have zd := RP.ext x2 (RP.ext x1 z)
            have zk := RP.ext x2 z1
            unfold fDGet2 at p2
            cases c1 : dAt e2 μ2 d k with
            | none => rw [c1] at p2; exact p2.elim
            | some o' =>
              rw [c1] at p2
              obtain ⟨ad, w', e1', g1', g2'⟩ := dAt_ok r2 zd zk c1
              rw [ea] at e1'
              cases e1'
              refine ⟨w', g1', ?_⟩
              cases o' with
              | none =>
                rw [show w' = none from g2']
                exact Post.ok p2 r2 z2
              | some v' =>
                obtain ⟨u, eu, ru⟩ := g2'
                rw [eu]
                exact Post.ok p2 r2 (RP.of ru)
/-- {k: v} -/
def tTOne (tk tv : TE) : TE := fun σ H Q => ∀ p o0, H p = none → ObT p o0 [] → tk σ (upd H p (dTe p o0)) fun x H1 => tv σ H1 fun y H2 => H2 p = some (dTe p o0) ∧ ∃ b k, x = .ref b ∧ TP H2 b (k.map kV) ∧ ∀ o u, RelV y u → ObT p o [(k, b, u)] → Q (.ref p) (upd H2 p (dTe p o))
theorem pe_tone {k v : Expr} {pos : Pos} {tk tv : TE} (hp : Cxp X) (hu : X.A.units + 1 < cLine) (hk : PE X k tk) (hv : PE X v tv) : PE X (.Dict [some k] [v] pos) (tTOne tk tv) := by
  refine ⟨fun pins s σ H Q I q => ?_⟩
  have hn := I.hok.fresh (Nat.le_refl s.heap.objs.size)
  have e0 : (s.heap.push { cls := .type "dict", data := .dict #[] }).get? s.heap.objs.size = some { cls := .type "dict", data := .dict #[] } := Heap.get?_push_size _ rfl
  have ob0 : ObT s.heap.objs.size ({ cls := .type "dict", data := .dict #[] } : Obj) [] := ⟨beq_eq_false_iff_ne.mpr (Nat.ne_of_gt I.big), Nat.zero_le _, ⟨rfl, rfl, rfl⟩, ⟨#[], 0, rfl, rfl⟩, List.Pairwise.nil⟩
  have I1 : Inv X pins σ (upd H s.heap.objs.size (dTe s.heap.objs.size { cls := .type "dict", data := .dict #[] })) { s with heap := s.heap.push { cls := .type "dict", data := .dict #[] } } := I.laid (t' := s.toks) (fun _ _ q => Heap.get?_push_of_some _ q) (Nat.le_refl _) (dTe_ok e0)
  rw [arm_eval_Dict, zip_pairTrees [some k] [v] X.env pos rfl rfl, dictDisplay_pairs (pairTrees [some k] [v] X.env pos) (by intro z; cases z) (by rw [pairTrees_length [some k] [v] X.env pos rfl rfl]; exact Nat.le_of_ble_eq_true rfl)]
  refine wpAny_bind (wpAny_standAt (wpAny_bind (wpAny_subDictH (knd := tupleKind (mixKind X.prog X.w)) (Q := fun d s' => wpAny (model X.prog X.w) X.A (pure (Value.ref d)) (EP X pins σ Q) X.xe s') (show X.A.units < cLine by omega) (by rw [pairTrees_length [some k] [v] X.env pos rfl rfl]; exact Nat.le_of_ble_eq_true rfl) ?_)))
  refine pairTrees_cons_walk (thn (hk.run pins _ σ _ _ I1 (q _ _ hn ob0)) fun u s1 ⟨x, H1, J1, rx, q1⟩ => thn (hv.run pins s1 σ H1 _ J1 q1) fun uv s2 ⟨y, H2, J2, ry, hd, b, kk, ex, hb, q2⟩ => pairTrees_nil_walk ?_)
  subst ex
  cases (show u = Value.ref b from rx)
  have hd' := (dT_at hp J2 hd ob0 (fun _ z => (nomatch z))).2
  refine ⟨[(kk, b, uv)], ⟨rfl, rfl, key_tp J2 hb, trivial⟩, hd', fun h' tk dd hs => wpAny_pure ?_⟩
  obtain ⟨o', es, ep, k1, k2, k3, k4, _, k6⟩ := dd
  rw [hp.prog, hp.w] at k4
  have ob : ObT s.heap.objs.size o' [(kk, b, uv)] := ⟨ob0.sys, by show 1 ≤ sizeLine; decide, k2, ⟨es, ep, k3, k4⟩, k6⟩
  exact ⟨.ref s.heap.objs.size, _, d_write J2 (by rw [hd]; trivial) hs ⟨o', k1⟩ (dTe_ok k1), rfl, q2 o' uv ry ob⟩
def mDOne (mk mv : ME) : Ma O := mBind mk fun k => mBind mv fun v e μ => match v.plain, keyT k with
  | true, some _ => .ok (.dic true [k] [v]) e μ
  | _, _ => .bad
theorem ef_done {k v : Expr} {pos : Pos} {mk mv : ME} (hp : Cxp X) (hu : X.A.units + 1 < cLine) (hk : EE X Wx k mk) (hv : EE X Wx v mv) : EF X Wx (.Dict [some k] [v] pos) (mDOne mk mv) := PE.weak (pe_tone hp hu hk hv) fun σ H Q q => by
  intro p o0 hn ob0
  obtain ⟨W, e, μ, r, pp⟩ := q
  have s0 := same_upd (o := dTe p o0) hn
  have f0 : Fresh X.K σ e W (upd H p (dTe p o0)) (.dic true [] []) p := fresh_new r hn ⟨[], by rw [upd_same]; trivial, ⟨o0, [], upd_same, ob0, rfl, fun _ z => (nomatch z), .nil⟩, rfl⟩
  have r0 := r.same s0
  have x0 : Ext W H W (upd H p (dTe p o0)) := Ext.same r.st s0
  refine ⟨W.more fun b => b = p, e, μ, r0.guard f0, ?_⟩
  unfold mDOne mBind at pp
  cases h1 : mk e μ with
  | bad => rw [h1] at pp; exact pp.elim
  | ex x1 e1 μ1 =>
    rw [h1] at pp
    intro W1 H1 c d x1 r1 xr
    obtain ⟨y1, y2, y3⟩ := f0.back x1 r1
    exact pp (W1.gr W.G) H1 c d (x0.trans y1) y2 (XR.cong (W := W1) (W' := W1.gr W.G) rfl rfl xr)
  | ok kd e1 μ1 =>
    rw [h1] at pp
    intro W1 H1 xv x1 r1 z1
    refine ⟨W1, e1, μ1, r1, ?_⟩
    simp only [Rs.bind] at pp
    cases h2 : mv e1 μ1 with
    | bad => rw [h2] at pp; exact pp.elim
    | ex x2 e2 μ2 =>
      rw [h2] at pp
      intro W2 H2 c d x2 r2 xr
      obtain ⟨y1, y2, y3⟩ := f0.back (x1.trans x2) r2
      exact pp (W2.gr W.G) H2 c d (x0.trans y1) y2 (XR.cong (W := W2) (W' := W2.gr W.G) rfl rfl xr)
    | ok vd e2 μ2 =>
      rw [h2] at pp
      intro W2 H2 yv x2 r2 z2
      simp only at pp
      have hd : H2 p = some (dTe p o0) := by
        rw [(x1.trans x2).kG p (.inr rfl), upd_same]
      cases cp : vd.plain with
      | false => rw [cp] at pp; exact pp.elim
      | true =>
        cases ck : keyT kd with
        | none => rw [cp, ck] at pp; exact pp.elim
        | some kk =>
          rw [cp, ck] at pp
          have zk : RV X.K W2 H2 kd xv := by
            have z1' := RP.ext x2 z1
            cases kd with
            | loc i => cases ck
            | _ => exact z1'
          obtain ⟨b, rfl, hb⟩ := (keyT_ok ck xv).mp zk
          refine ⟨hd, b, kk, rfl, hb, fun o u ru ob => ?_⟩
          obtain ⟨y1, y2, y3⟩ := f0.back (x1.trans x2) r2
          have zv : RV X.K (W2.gr W.G) H2 vd yv := RV.cong (W := W2) (W' := W2.gr W.G) rfl rfl _ _ (z2.val cp)
          have nt : NoTup (H2 p) := by rw [hd]; trivial
          have x3 : Ext (W2.gr W.G) H2 (W2.gr W.G) (upd H2 p (dTe p o)) := Ext.write y3.2.1 y3.2.2.1 nt
          obtain ⟨g1, g2, g3⟩ := y2.putF (ho := dTe p o) (o' := .dic true [kd] [vd]) y3 nt ⟨[yv], by rw [upd_same]; trivial, ⟨o, _, upd_same, ob, by rw [keysT, ck]; rfl, fun z hz => by rw [List.mem_singleton.mp hz]; exact hb.ext x3, .cons ru .nil⟩, yv, [], rfl, RV.ext x3 _ _ zv, rfl⟩
          exact pp (W2.gr W.G) _ _ ((x0.trans y1).trans g1) g2 ⟨p, rfl, g3⟩
end
end Ev

set_option maxRecDepth 100000
set_option maxHeartbeats 4000000
/-! Ev12: sorted, count, repr. -/
namespace EvT
open PySem PySem.W PySem.Calls PyProof.Rows
section
variable {prog : Program} {w : World} {A : Around} {E : Value → Shared → Prop} {s : Shared} {β : Type} {bs : List β} {enc : β → PyData} {R : Value → β → Prop}
/-- sorted of a list or of a tuple -/
theorem sorted_seq {l : Addr} {T : String} {o : Obj} {vs : List Value} {n : Nat} {Q : Value → Shared → Prop} (hT : T = "list" ∨ T = "tuple") (ho : s.heap.get? l = some o) (hc : o.cls = .type T) (hd : o.data = .seq vs.toArray n) (hL : vs.length ≤ sizeLine)
    (e : EachIs R vs bs) (er : EachIs (fun v b => ∃ as, Reads s.heap v (enc b) as) vs bs) (hal : AllAlike (bs.map enc)) (hk : Sortable (bs.map enc)) (hu : ∀ b, b ∈ bs → A.units + 2 + (enc b).depth < cLine)
    (h : ∀ (out : List Value) (h1 h' : Heap) (L : Addr), (∀ b o, s.heap.get? b = some o → h1.get? b = some o) → (∀ b o, h1.get? b = some o → h'.get? b = some o) → h1.objs.size ≤ L → (∃ n, h'.get? L = some (seqObj "list" (List.toArray out) n)) → out.length = bs.length → EachIs R out (bs.mergeSort (dataLe false enc)) → Q (.ref L) { s with heap := h' }) :
    wpAny (model prog w) A (call (.builtin "sorted") [.ref l]) Q E s := by
  refine call_function_entry kind_sorted plain_sorted entry_sorted (args_sorted1 _) ?_
  unfold Builtin.«sorted»
  refine wpAny_bind (m := checkCount "sorted" 1 1 _) (wpAny_pure ?_)
  refine wpAny_bind (wpAny_collect_seq l hT ho hc hd (fun h1 k1 => ?_) (by simpa using hL))
  refine wpAny_bind (wpAny_newList ?_ hL)
  have ho2 : (h1.push (seqObj "list" vs.toArray 0)).get? h1.objs.size = some (seqObj "list" vs.toArray 0) := Heap.get?_push_size _ rfl
  have k2 : ∀ b o, h1.get? b = some o → (h1.push (seqObj "list" vs.toArray 0)).get? b = some o := fun b o q => Heap.get?_push_of_some _ q
  have old : ∀ b o, h1.get? b = some o → (sortingHeap (h1.push (seqObj "list" vs.toArray 0)) h1.objs.size vs).get? b = some o := fun b o q => sortingHeap_old (Nat.ne_of_lt (Heap.lt_size q)) (k2 b o q)
  have er' : EachIs (fun v b => ∃ as, Reads (sortingHeap (h1.push (seqObj "list" vs.toArray 0)) h1.objs.size vs) v (enc b) as) vs bs := er.mono fun _ _ ⟨as, r⟩ => ⟨as, PyProof.Rows.Reads.keeps (fun b o q => old b o (k1 b o q)) r⟩
  have hl := e.length
  refine wpAny_bind (wpAny_holding (wpAny_call_entry slot_list_sort ⟨_, ho2, rfl⟩ entry_list_sort ?_ (args_list_sort _)))
  have S := SortsAt.data (prog := prog) (w := w) (A := A.in1.in1) (s := { s with heap := sortingHeap (h1.push (seqObj "list" vs.toArray 0)) h1.objs.size vs }) (each_map (R := fun v d => ∃ as, Reads (sortingHeap (h1.push (seqObj "list" vs.toArray 0)) h1.objs.size vs) v d as) enc er') hal hk (bound_map hu)
  refine list_sort_vals (s := { s with heap := h1.push (seqObj "list" vs.toArray 0) }) ho2 S hL ⟨_, rfl, ?_⟩
  refine wpAny_pure ⟨_, rfl, ?_⟩
  obtain ⟨m, hm⟩ := sortedHeap_at (out := (sortVals (dataKind (sortingHeap (h1.push (seqObj "list" vs.toArray 0)) h1.objs.size vs) (bs.map enc)) false vs vs).toArray) ho2
  refine h _ h1 _ h1.objs.size k1 (fun b o q => ?_) (Nat.le_refl _) ⟨m, hm⟩ ?_ (sortVals_data false e er' hal)
  · exact (sortedHeap_old (Nat.ne_of_lt (Heap.lt_size q)) (by rw [size_push']; exact Nat.lt_succ_of_lt (Heap.lt_size q))).trans (k2 b o q)
  · rw [sortVals_length false rfl]
    exact hl
end
end EvT

namespace Ev
open PySem PySem.Spec PyProof.Rows L2
open PySem.W (AllAlike Sortable dataLe sortLe alike)
variable [PWo]

/-! ### a sort -/
def insO {α : Type} (le : α → α → Bool) (a : α) : List α → List α
  | [] => [a]
  | b :: r => match le a b with
    | true => a :: b :: r
    | false => b :: insO le a r
def insS {α : Type} (le : α → α → Bool) : List α → List α
  | [] => []
  | a :: r => insO le a (insS le r)
theorem insO_at {α : Type} {le : α → α → Bool} {a : α} : ∀ {l r : List α}, (∀ b ∈ l, le a b = false) → (∀ b ∈ r, le a b = true) → insO le a (l ++ r) = l ++ a :: r
  | [], [], _, _ => rfl
  | [], b :: r, _, h => by
    show insO le a (b :: r) = _
    rw [insO, h b List.mem_cons_self]
    rfl
  | c :: l, r, h1, h2 => by
    show insO le a (c :: (l ++ r)) = _
    rw [insO, h1 c List.mem_cons_self, insO_at (fun b hb => h1 b (List.mem_cons_of_mem _ hb)) h2]
    rfl
theorem insS_eq {α : Type} {le : α → α → Bool} (trans : ∀ a b c : α, le a b → le b c → le a c) (total : ∀ a b : α, le a b || le b a) : ∀ l : List α, insS le l = l.mergeSort le
  | [] => by simp [insS]
  | a :: l => by
    obtain ⟨l1, l2, h1, h2, h3⟩ := List.mergeSort_cons trans total a l
    rw [insS, insS_eq trans total l, h2, h1]
    refine insO_at (fun b hb => by simpa using h3 b hb) fun b hb => ?_
    have s := List.pairwise_mergeSort trans total (a :: l)
    rw [h1] at s
    exact (List.pairwise_cons.mp (List.pairwise_append.mp s).2.1).1 b hb
def pkD (d : D) : PyData := (pdD d).getD .none
def leD (a b : D) : Bool := dataLe false pkD a b
theorem leD_tot : PySem.W.TotalLe leD := PySem.W.sortLe_total (listOrd itemOrd) false fun d => PySem.W.keyToks (pkD d)
theorem leD_sort (l : List D) : insS leD l = l.mergeSort leD := insS_eq (fun a b c h1 h2 => leD_tot.trans a b c h1 h2) (fun a b => Bool.or_eq_true_iff.mpr (leD_tot.total a b)) l
def tupNE : PyData → Bool
  | .tuple (_ :: _) => true
  | _ => false
def notTN : PyData → Bool
  | .none => false
  | .tuple _ => false
  | _ => true
def sortB (ps : List PyData) : Bool := (ps.all fun p => ps.all fun q => alike p q) && ((ps.all tupNE || ps.all notTN) && (ps.all (fun p => Nat.ble p.depth 20) && lineB ps.length))
theorem sortB_ok {ps : List PyData} (h : sortB ps = true) : AllAlike ps ∧ Sortable ps ∧ (∀ p ∈ ps, p.depth ≤ 20) ∧ ps.length ≤ sizeLine := by
  obtain ⟨h1, h2⟩ := Bool.and_eq_true_iff.mp h
  obtain ⟨h2, h3⟩ := Bool.and_eq_true_iff.mp h2
  obtain ⟨h3, h4⟩ := Bool.and_eq_true_iff.mp h3
  refine ⟨fun p hp q hq => List.all_eq_true.mp (List.all_eq_true.mp h1 p hp) q hq, ?_, fun p hp => Nat.le_of_ble_eq_true (List.all_eq_true.mp h3 p hp), lineB_ok h4⟩
  rcases Bool.or_eq_true_iff.mp h2 with h2 | h2
  · refine .inl fun p hp => ?_
    have := List.all_eq_true.mp h2 p hp
    unfold tupNE at this
    split at this
    · exact ⟨_, _, rfl⟩
    · cases this
  · refine .inr fun p hp => ?_
    have := List.all_eq_true.mp h2 p hp
    unfold notTN at this
    split at this
    · cases this
    · cases this
    · rename_i h5 h6
      exact ⟨fun z => h5 z, fun xs z => h6 xs z⟩
abbrev Tr3 := D × V × PyData
def rSortD (K : PySem.W.Frag) : List V → Hp → VK → Prop := fun vs H Q => ∃ (a : Addr) (T : List Tr3), vs = [.ref a] ∧ (SqL K H a (T.map (·.2.1)) ∨ SqT K H a (T.map (·.2.1))) ∧ DpAll K H (T.map (·.2.1)) (T.map (·.2.2)) ∧ sortB (T.map (·.2.2)) = true ∧
  ∀ p, H p = none → Q (.ref p) (upd H p (.lst ((T.mergeSort (dataLe false fun t : Tr3 => t.2.2)).map (·.2.1))))
theorem each_rel : ∀ {T : List Tr3} {us : List Value}, Vals (T.map (·.2.1)) us → PySem.W.EachIs (fun u (t : Tr3) => RelV t.2.1 u) us T
  | [], us, h => by
    cases us with
    | nil => exact .nil
    | cons u r => cases h
  | t :: T, us, h => by
    cases us with
    | nil => cases h
    | cons u r =>
      cases h with
      | cons a b => exact .cons a (each_rel b)
theorem each_read {h : Heap} : ∀ {T : List Tr3} {us : List Value} {as : List Addr}, ReadsAll h us (T.map (·.2.2)) as → PySem.W.EachIs (fun u (t : Tr3) => ∃ as, Reads h u t.2.2 as) us T
  | T, us, as, r => PySem.W.readsAll_each (fun t : Tr3 => t.2.2) r
theorem vals_each : ∀ {T : List Tr3} {us : List Value}, PySem.W.EachIs (fun u (t : Tr3) => RelV t.2.1 u) us T → Vals (T.map (·.2.1)) us
  | _, _, .nil => .nil
  | _, _, .cons a b => .cons a (vals_each b)
section
variable {X : Cx}
theorem cr_sortD (hu : X.A.units + 64 < cLine) : CallR X (.builtin "sorted") (rSortD X.K) := by
  intro pins s σ H vs us Q I r ⟨a, T, ev, hs, hd, hb, q⟩
  subst ev
  obtain ⟨u, rfl, rx⟩ := vals1 r
  cases rx
  obtain ⟨h1, h2, h3, h4⟩ := sortB_ok hb
  have seq : ∃ (Tn : String) (o : Obj) (its : List Value) (n : Nat), (Tn = "list" ∨ Tn = "tuple") ∧ s.heap.get? a = some o ∧ o.cls = .type Tn ∧ o.data = .seq its.toArray n ∧ Vals (T.map (·.2.1)) its := by
    rcases hs with hs | hs
    · obtain ⟨its, rv, ⟨o, n, ho, hc, _, hdt⟩, _⟩ := I.list hs
      exact ⟨"list", o, its, n, .inl rfl, ho, hc, hdt, rv⟩
    · obtain ⟨its, rv, ⟨o, ho, hc, n, hdt⟩, _⟩ := I.tuple hs
      exact ⟨"tuple", o, its, n, .inr rfl, ho, hc, hdt, rv⟩
  obtain ⟨Tn, o, its, n, hT, ho, hc, hdt, rv⟩ := seq
  have hlen : its.length = T.length := by rw [← rv.length, List.length_map]
  obtain ⟨as, rd⟩ := Dp.readsAll I _ _ its hd rv
  rw [List.length_map] at h4
  refine EvT.sorted_seq (bs := T) (enc := fun t : Tr3 => t.2.2) (R := fun u (t : Tr3) => RelV t.2.1 u) hT ho hc hdt (by omega) (each_rel rv) (each_read rd) h1 h2 (fun t ht => ?_) fun out g1 g2 L k1 k2 hL hm hl he => ?_
  · have := h3 t.2.2 (List.mem_map.mpr ⟨t, ht, rfl⟩)
    omega
  · obtain ⟨m, hm⟩ := hm
    have I1 : Inv X pins σ H { s with heap := g1 } := I.kept (t' := s.toks) k1
    refine ⟨.ref L, _, I1.laid (t' := s.toks) (o := .lst ((T.mergeSort (dataLe false fun t : Tr3 => t.2.2)).map (·.2.1))) k2 hL ⟨?_, out, m, vals_each he, hm⟩, rfl, q L (I1.hok.fresh hL)⟩
    rw [List.length_map, List.length_mergeSort]
    exact h4
end
def zip3 : List D → List V → List PyData → List Tr3
  | d :: ds, v :: vs, p :: ps => (d, v, p) :: zip3 ds vs ps
  | _, _, _ => []
theorem zip3_1 : ∀ {ds : List D} {vs : List V} {ps : List PyData}, vs.length = ds.length → ps.length = ds.length → (zip3 ds vs ps).map (·.1) = ds
  | [], _, _, _, _ => by simp [zip3]
  | d :: ds, [], _, h, _ => by simp at h
  | d :: ds, v :: vs, [], _, h => by simp at h
  | d :: ds, v :: vs, p :: ps, h1, h2 => by
    rw [zip3, List.map_cons, zip3_1 (by simpa using h1) (by simpa using h2)]
theorem zip3_2 : ∀ {ds : List D} {vs : List V} {ps : List PyData}, vs.length = ds.length → ps.length = ds.length → (zip3 ds vs ps).map (·.2.1) = vs
  | [], vs, _, h, _ => by
    have : vs = [] := List.eq_nil_of_length_eq_zero (by simpa using h)
    subst this
    simp [zip3]
  | d :: ds, [], _, h, _ => by simp at h
  | d :: ds, v :: vs, [], _, h => by simp at h
  | d :: ds, v :: vs, p :: ps, h1, h2 => by
    rw [zip3, List.map_cons, zip3_2 (by simpa using h1) (by simpa using h2)]
theorem zip3_3 : ∀ {ds : List D} {vs : List V} {ps : List PyData}, vs.length = ds.length → ps.length = ds.length → (zip3 ds vs ps).map (·.2.2) = ps
  | [], _, ps, _, h => by
    have : ps = [] := List.eq_nil_of_length_eq_zero (by simpa using h)
    subst this
    simp [zip3]
  | d :: ds, [], _, h, _ => by simp at h
  | d :: ds, v :: vs, [], _, h => by simp at h
  | d :: ds, v :: vs, p :: ps, h1, h2 => by
    rw [zip3, List.map_cons, zip3_3 (by simpa using h1) (by simpa using h2)]
theorem pdDs_len : ∀ {ds : List D} {ps : List PyData}, pdDs ds = some ps → ps.length = ds.length
  | [], ps, h => by cases h; rfl
  | d :: ds, ps, h => by
    obtain ⟨p, r, rfl, _, h2⟩ := pdDs_cons h
    rw [List.length_cons, List.length_cons, pdDs_len h2]
theorem zip3_mem {K : PySem.W.Frag} {W : Wd} {H : Hp} : ∀ {ds : List D} {vs : List V} {ps : List PyData}, RVs K W H ds vs → pdDs ds = some ps → ∀ t ∈ zip3 ds vs ps, RV K W H t.1 t.2.1 ∧ pdD t.1 = some t.2.2
  | [], _, _, _, _, t, ht => by simp [zip3] at ht
  | d :: ds, _, _, ⟨v, r, rfl, g1, g2⟩, h, t, ht => by
    obtain ⟨p, q, rfl, h1, h2⟩ := pdDs_cons h
    rw [zip3] at ht
    rcases List.mem_cons.mp ht with rfl | ht
    · exact ⟨g1, h1⟩
    · exact zip3_mem g2 h2 t ht
theorem rvs_of {K : PySem.W.Frag} {W : Wd} {H : Hp} : ∀ {T : List Tr3}, (∀ t ∈ T, RV K W H t.1 t.2.1) → RVs K W H (T.map (·.1)) (T.map (·.2.1))
  | [], _ => rfl
  | t :: T, h => ⟨_, _, rfl, h t List.mem_cons_self, rvs_of fun t' ht => h t' (List.mem_cons_of_mem _ ht)⟩
def fSort (d : D) : Ma O := fun e μ => match seqE e μ d with
  | some xs => (match pdDs xs with
    | some ps => (match sortB ps with
      | true => .ok (.lst (insS leD xs)) e μ
      | false => .bad)
    | none => .bad)
  | none => .bad
section
variable {X : Cx} {Wx : WX} {p pos : Pos} {e : Expr} {ml : Ma (List D)}
theorem l_sort : ArL X.K Wx (relO X.K) (rSortD X.K) (one fSort) := fun σ W H e μ ds vs Q r h p => by
  obtain ⟨d, v, rfl, rfl, h1, p⟩ := one_ok h p
  unfold fSort at p
  cases z : seqE e μ d with
  | none => rw [z] at p; exact p.elim
  | some xs =>
    rw [z] at p
    simp only at p
    cases z2 : pdDs xs with
    | none => rw [z2] at p; exact p.elim
    | some ps =>
      rw [z2] at p
      simp only at p
      cases z3 : sortB ps with
      | false => rw [z3] at p; exact p.elim
      | true =>
        rw [z3] at p
        obtain ⟨a, vs, e1, g1, g2⟩ := seq_any r h1 z
        have l1 := RVs.length g1
        have l2 := pdDs_len z2
        have e2 := zip3_2 l1 l2
        have e3 := zip3_3 l1 l2
        have mem := zip3_mem g1 z2
        refine ⟨a, zip3 xs vs ps, by rw [e1], by rw [e2]; exact g2, by rw [e2, e3]; exact RVs.dp xs vs ps g1 z2, by rw [e3]; exact z3, ?_⟩
        have ed : ((zip3 xs vs ps).mergeSort (dataLe false fun t : Tr3 => t.2.2)).map (·.1) = insS leD xs := by
          rw [leD_sort, List.map_mergeSort (s := leD) (f := fun t : Tr3 => t.1), zip3_1 l1 l2]
          intro x hx y hy
          have a1 : pkD x.1 = x.2.2 := by unfold pkD; rw [(mem x hx).2]; rfl
          have a2 : pkD y.1 = y.2.2 := by unfold pkD; rw [(mem y hy).2]; rfl
          unfold leD dataLe sortLe
          simp only [a1, a2]
        refine new_lst (ds := insS leD xs) r ?_ p
        rw [← ed]
        exact rvs_of fun t ht => (mem t (List.mem_mergeSort.mp ht)).1
theorem ef_sorted (hu : X.A.units + 64 < cLine) (hg : Gl X "sorted") (hm : X.mg "sorted" = none) (hv : bootBuiltins "sorted" = some (.builtin "sorted")) (ha : EA X Wx [e] ml) (he : starEach [e] X.env = (false, eval e X.env) :: starEach [] X.env := by rfl) : EF X Wx (.Call (.Name "sorted" p) [e] [] pos) (mBind ml (one fSort)) :=
  ep_callB (cr_sortD hu) l_sort hg hm hv ha (by decide) (by decide) he rfl
end
end Ev

set_option maxRecDepth 100000
set_option maxHeartbeats 4000000
/-! Ev13: sorted(set(t)), count, repr. -/
namespace Ev
open PySem PySem.Spec PyProof.Rows L2
variable [PWo]

/-! ### sorted(set(t)) -/
def insU (a : Int) : List Int → List Int
  | [] => [a]
  | b :: r => match decide (a < b) with
    | true => a :: b :: r
    | false => (match decide (a = b) with
      | true => b :: r
      | false => b :: insU a r)
def setS : List Int → List Int
  | [] => []
  | a :: r => insU a (setS r)
theorem insU_mem (a : Int) : ∀ (l : List Int) (k : Int), k ∈ insU a l ↔ k = a ∨ k ∈ l
  | [], k => by simp [insU]
  | b :: r, k => by
    rw [insU]
    by_cases h : a < b
    · rw [decide_eq_true h]; simp
    · rw [decide_eq_false h]
      by_cases h2 : a = b
      · rw [decide_eq_true h2]
        subst h2
        simp
      · rw [decide_eq_false h2]
        simp only [List.mem_cons, insU_mem a r k]
        constructor
        · rintro (h | h | h) <;> simp [h]
        · rintro (h | h | h) <;> simp [h]
theorem insU_asc (a : Int) : ∀ (l : List Int), l.Pairwise (· < ·) → (insU a l).Pairwise (· < ·)
  | [], _ => List.pairwise_singleton _ _
  | b :: r, h => by
    obtain ⟨h1, h2⟩ := List.pairwise_cons.mp h
    rw [insU]
    by_cases c : a < b
    · rw [decide_eq_true c]
      refine List.pairwise_cons.mpr ⟨fun x hx => ?_, h⟩
      rcases List.mem_cons.mp hx with rfl | hx
      · exact c
      · exact Int.lt_trans c (h1 x hx)
    · rw [decide_eq_false c]
      by_cases c2 : a = b
      · rw [decide_eq_true c2]
        exact h
      · rw [decide_eq_false c2]
        refine List.pairwise_cons.mpr ⟨fun x hx => ?_, insU_asc a r h2⟩
        rcases (insU_mem a r x).mp hx with rfl | hx
        · omega
        · exact h1 x hx
theorem setS_mem : ∀ (l : List Int) (k : Int), k ∈ setS l ↔ k ∈ l
  | [], k => by simp [setS]
  | a :: r, k => by rw [setS, insU_mem, setS_mem r k, List.mem_cons]
theorem setS_asc : ∀ l : List Int, (setS l).Pairwise (· < ·)
  | [] => List.Pairwise.nil
  | a :: r => insU_asc a _ (setS_asc r)
theorem asc_unique : ∀ {l m : List Int}, l.Pairwise (· < ·) → m.Pairwise (· < ·) → (∀ k, k ∈ l ↔ k ∈ m) → l = m
  | [], [], _, _, _ => rfl
  | [], b :: m, _, _, h => absurd ((h b).mpr List.mem_cons_self) (by simp)
  | a :: l, [], _, _, h => absurd ((h a).mp List.mem_cons_self) (by simp)
  | a :: l, b :: m, h1, h2, h => by
    obtain ⟨a1, a2⟩ := List.pairwise_cons.mp h1
    obtain ⟨b1, b2⟩ := List.pairwise_cons.mp h2
    have e : a = b := by
      rcases List.mem_cons.mp ((h a).mp List.mem_cons_self) with z | z
      · exact z
      · rcases List.mem_cons.mp ((h b).mpr List.mem_cons_self) with y | y
        · exact y.symm
        · have := b1 a z
          have := a1 b y
          omega
    subst e
    rw [asc_unique a2 b2 fun k => ?_]
    constructor
    · intro hk
      rcases List.mem_cons.mp ((h k).mp (List.mem_cons_of_mem _ hk)) with z | z
      · have := a1 k hk
        omega
      · exact z
    · intro hk
      rcases List.mem_cons.mp ((h k).mpr (List.mem_cons_of_mem _ hk)) with z | z
      · have := b1 k hk
        omega
      · exact z
def rSetT (K : PySem.W.Frag) (w : World) : List V → Hp → VK → Prop := fun vs H Q => ∃ (a : Addr) (ns : List Int), vs = [.ref a] ∧ SqT K H a (ns.map V.int) ∧ ns.length < 64 ∧
  ∀ p c, H p = none → c ≤ ns.length → Q (.ref p) (upd H p (SetO w p (fun j => decide (j ∈ ns)) c))
section
variable {X : Cx}
theorem cr_setT (hc : X.calm = true) : CallR X (.type "set") (rSetT X.K X.w) := by
  intro pins s σ H vs us Q I r ⟨a, ns, ev, hs, h64, q⟩
  subst ev
  obtain ⟨u, rfl, rx⟩ := vals1 r
  cases rx
  obtain ⟨its, rv, tp, hz⟩ := I.tuple hs
  have hb : ns.length + 1 < scanBound := by
    have e : (64 : Nat) < scanBound := by decide
    omega
  refine call_set_tupI ns (I.ok.hd hc) (tp) (by simpa using rv.ints) hb fun h' tk c R hcl k => ?_
  have hn := I.hok.fresh (Nat.le_refl s.heap.objs.size)
  exact ⟨.ref s.heap.objs.size, _, I.laid (t' := tk) k (Nat.le_refl _) (setO_new R), rfl, q _ c hn hcl⟩
end
def fSortSet (d : D) : Ma O := fun e μ => match d with
  | .tup xs => (match intsD xs with
    | some ns => (match Nat.ble ns.length 60 with
      | true => .ok (.lst ((setS ns).map .int)) e μ
      | false => .bad)
    | none => .bad)
  | _ => .bad
theorem rvs_ints {K : PySem.W.Frag} {W : Wd} {H : Hp} : ∀ ns : List Int, RVs K W H (ns.map D.int) (ns.map V.int)
  | [] => rfl
  | n :: r => ⟨_, _, rfl, rfl, rvs_ints r⟩
section
variable {X : Cx} {Wx : WX} {p p2 pos pos2 : Pos} {e : Expr} {ml : Ma (List D)}
theorem ef_sortedSet (hc : X.calm = true) (hg : Gl X "sorted") (hm : X.mg "sorted" = none) (hv : bootBuiltins "sorted" = some (.builtin "sorted")) (hg2 : Gl X "set") (hm2 : X.mg "set" = none) (hv2 : bootBuiltins "set" = some (.type "set")) (ha : EA X Wx [e] ml)
    (he : starEach [e] X.env = (false, eval e X.env) :: starEach [] X.env := by rfl) (he2 : starEach [.Call (.Name "set" p2) [e] [] pos2] X.env = (false, eval (.Call (.Name "set" p2) [e] [] pos2) X.env) :: starEach [] X.env := by rfl) :
    EF X Wx (.Call (.Name "sorted" p) [.Call (.Name "set" p2) [e] [] pos2] [] pos) (mBind ml (one fSortSet)) := by
  have inner : PE X (.Call (.Name "set" p2) [e] [] pos2) (tCB (rSetT X.K X.w) (TR X.K Wx (relVs X.K) ml)) := pe_callTy (cr_setT hc) hg2 hm2 hv2 ha (by decide) (by decide) he rfl
  refine PE.weak (pe_callB (cr_sortedSet hc) hg hm hv (pa_cons inner pa_nil he2) (by decide) (by decide) he2 rfl) fun σ H Q q => ?_
  show TR X.K Wx (relVs X.K) ml σ H _
  refine TR.one q fun W H1 e μ ds vs r z p => ?_
  obtain ⟨d, v, rfl, rfl, h1, p⟩ := one_ok z p
  unfold fSortSet at p
  cases d with
  | tup xs =>
    simp only at p
    cases z2 : intsD xs with
    | none => rw [z2] at p; exact p.elim
    | some ns =>
      rw [z2] at p
      simp only at p
      cases z3 : Nat.ble ns.length 60 with
      | false => rw [z3] at p; exact p.elim
      | true =>
        rw [z3] at p
        have h60 : ns.length ≤ 60 := Nat.le_of_ble_eq_true z3
        obtain ⟨a, ws, rfl, g1, g2⟩ := h1
        have ew := intsD_ok g2 z2
        subst ew
        refine ⟨a, ns, rfl, g1.sq, by omega, fun p1 c hn hcl => ?_⟩
        show tNil σ _ _
        refine ⟨p1, _, c, rfl, upd_same, by omega, fun ms p2 h2 h3 h4 hn2 => ?_⟩
        have em : ms = setS ns := asc_unique h2 (setS_asc ns) fun k => by rw [h3, decide_eq_true_iff, setS_mem]
        subst em
        have s1 := same_upd (o := SetO X.w p1 (fun j => decide (j ∈ ns)) c) hn
        exact new_lst (ds := (setS ns).map .int) (r.same s1) (rvs_ints _) (Post.later (Ext.same r.st s1) p) p2 hn2
  | _ => exact p.elim
end
/-! ### count -/
def cntB (ps : List PyData) (p : PyData) : Bool := (PyData.plainAll ps && p.plain) && Nat.ble p.depth 20
def fCount (a x : D) : ME := fun e μ => match seqE e μ a, pdD x with
  | some xs, some p => (match pdDs xs with
    | some ps => (match cntB ps p with
      | true => .ok (.int ((ps.countP fun y => PyData.eqv y p : Nat) : Int)) e μ
      | false => .bad)
    | none => .bad)
  | _, _ => .bad
def tupF : D → Bool
  | .tup _ => true
  | _ => false
def mCountT (ma mx : ME) : ME := mBind ma fun a e μ => match tupF a with
  | true => mBind mx (fun x => fCount a x) e μ
  | false => .bad
def mCountL (ma mx : ME) : ME := mBind ma fun a e μ => match lstX e μ a with
  | some _ => mBind mx (fun x => fCount a x) e μ
  | none => .bad
def CntQ (K : PySem.W.Frag) (isT : Bool) (a : Addr) (y : V) (H : Hp) (Q : VK) : Prop := ∃ vs ps p, (match isT with | true => SqT K H a vs | false => SqL K H a vs) ∧ DpAll K H vs ps ∧ Dp K H y p ∧ cntB ps p = true ∧ Q (.int ((ps.countP fun z => PyData.eqv z p : Nat) : Int)) H
def tCntT (K : PySem.W.Frag) (te tx : TE) : TE := fun σ H Q => te σ H fun x H1 => ∃ a vs, x = .ref a ∧ TP H1 a vs ∧ tx σ H1 fun y H2 => CntQ K true a y H2 Q
def tCntL (K : PySem.W.Frag) (te tx : TE) : TE := fun σ H Q => te σ H fun x H1 => ∃ a vs, x = .ref a ∧ SqL K H1 a vs ∧ tx σ H1 fun y H2 => CntQ K false a y H2 Q
section
variable {X : Cx} {o e : Expr} {apos cpos : Pos} {te tx : TE}
theorem pe_cntT (hu : X.A.units + 64 < cLine) (ho : PE X o te) (he : PE X e tx) (m : M1 X o "count" apos e cpos) : PE X (.Call (.Attribute o "count" apos) [e] [] cpos) (tCntT X.K te tx) := by
  refine ⟨fun pins s σ H Q I h => ?_⟩
  refine wpAny_Call_method m.base m.few m.line PySem.F.plainAttrs_tuple PySem.F.slot_tuple_count PySem.F.type_tuple_count (thn (ho.run pins s σ H _ I h) fun u s1 ⟨x, H1, I1, rx, a, vs, ex, ⟨ob, hob, hd⟩, q1⟩ => ?_)
  subst ex
  obtain rfl : u = Value.ref a := rx
  have g := (I1.hok a _ hob).1
  obtain ⟨its0, _, tp0, _⟩ := I1.tuple (.inl (.inr ⟨ob, hob⟩))
  refine ⟨tp0.typeIs, fun b hb => by cases hb; exact ⟨ob, g, hd⟩, ?_⟩
  rw [m.trees]
  refine Calls.callWith_builtin rfl (Calls.evalArgs_plain (Calls.spliced_cons (thn (he.run pins s1 σ H1 _ I1 q1) fun iv s2 ⟨y, H2, I2, ry, ws, ps, p, hs, hda, hdp, hc, q2⟩ => Calls.spliced_nil ?_)))
  obtain ⟨its, rv, tp, _⟩ := I2.tuple hs
  obtain ⟨as, rd⟩ := Dp.readsAll I2 _ _ its hda rv
  obtain ⟨bs, rb⟩ := Dp.reads I2 _ _ _ hdp ry
  obtain ⟨c12, c3⟩ := Bool.and_eq_true_iff.mp hc
  obtain ⟨c1, c2⟩ := Bool.and_eq_true_iff.mp c12
  have hdep : p.depth ≤ 20 := Nat.le_of_ble_eq_true c3
  exact PySem.SeqAt.count_tuple_data (vs := its.toArray) tp (by simpa using rd) rb c1 c2 (by have := Nat.min_le_right (PyData.depthAll ps) p.depth; omega) ⟨.int ((ps.countP fun z => PyData.eqv z p : Nat) : Int), H2, I2.tok _, ⟨_, rfl⟩, q2⟩
theorem pe_cntL (hu : X.A.units + 64 < cLine) (ho : PE X o te) (he : PE X e tx) (m : M1 X o "count" apos e cpos) : PE X (.Call (.Attribute o "count" apos) [e] [] cpos) (tCntL X.K te tx) := by
  refine ⟨fun pins s σ H Q I h => ?_⟩
  refine wpAny_Call_method m.base m.few m.line PySem.F.plainAttrs_list PySem.F.slot_list_count PySem.F.type_list_count (thn (ho.run pins s σ H _ I h) fun u s1 ⟨x, H1, I1, rx, a, vs, ex, hl, q1⟩ => ?_)
  subst ex
  obtain rfl : u = Value.ref a := rx
  obtain ⟨its0, _, tp0, _⟩ := I1.list hl
  refine ⟨tp0.isList.typeIs, fun b hb => by cases hb; obtain ⟨ob, n, g, _, hd, _⟩ := tp0; exact ⟨ob, g, hd⟩, ?_⟩
  rw [m.trees]
  refine Calls.callWith_builtin rfl (Calls.evalArgs_plain (Calls.spliced_cons (thn (he.run pins s1 σ H1 _ I1 q1) fun iv s2 ⟨y, H2, I2, ry, ws, ps, p, hs, hda, hdp, hc, q2⟩ => Calls.spliced_nil ?_)))
  obtain ⟨its, rv, tp, _⟩ := I2.list hs
  obtain ⟨as, rd⟩ := Dp.readsAll I2 _ _ its hda rv
  obtain ⟨bs, rb⟩ := Dp.reads I2 _ _ _ hdp ry
  obtain ⟨c12, c3⟩ := Bool.and_eq_true_iff.mp hc
  obtain ⟨c1, c2⟩ := Bool.and_eq_true_iff.mp c12
  have hdep : p.depth ≤ 20 := Nat.le_of_ble_eq_true c3
  exact PySem.SeqAt.count_list_data (vs := its.toArray) tp.isList (by simpa using rd) rb c1 c2 (by have := Nat.min_le_right (PyData.depthAll ps) p.depth; omega) ⟨.int ((ps.countP fun z => PyData.eqv z p : Nat) : Int), H2, I2.tok _, ⟨_, rfl⟩, q2⟩
end
section
variable {X : Cx} {Wx : WX} {o e : Expr} {apos cpos : Pos} {ma mx : ME}
theorem cnt_imp {K : PySem.W.Frag} {W W2 : Wd} {H H2 : Hp} {en en2 : En} {σ : St} {μ μ2 : Mu} {d x : D} {y : V} {a : Addr} {Q : VK} (r2 : Rel K W2 H2 en2 σ μ2) (zd : RP K σ W2 H2 d (.ref a)) (zx : RP K σ W2 H2 x y) (p : Post K Wx (relV K) W2 H2 σ (fCount d x en2 μ2) Q) :
    CntQ K d.isTup a y H2 Q := by
  unfold fCount at p
  cases c1 : seqE en2 μ2 d with
  | none => rw [c1] at p; exact p.elim
  | some xs =>
    cases c2 : pdD x with
    | none => rw [c1, c2] at p; exact p.elim
    | some pp =>
      rw [c1, c2] at p
      simp only at p
      cases c3 : pdDs xs with
      | none => rw [c3] at p; exact p.elim
      | some ps =>
        rw [c3] at p
        simp only at p
        cases c4 : cntB ps pp with
        | false => rw [c4] at p; exact p.elim
        | true =>
          rw [c4] at p
          obtain ⟨a', vs, e1, g1, g2⟩ := seq_ok r2 zd c1
          cases e1
          have zx' : RV K W2 H2 x y := by
            cases x with
            | loc i => cases c2
            | _ => exact zx
          refine ⟨vs, ps, pp, ?_, RVs.dp xs vs ps g1 c3, RV.dp x y pp zx' c2, c4, Post.ok p r2 (RP.of rfl)⟩
          rcases g2 with ⟨g2, g3⟩ | ⟨g2, g3⟩
          · rw [g2]; exact g3.sq
          · rw [g2]; exact g3
theorem ee_countT (hu : X.A.units + 64 < cLine) (ho : EE X Wx o ma) (he : EE X Wx e mx) (m : M1 X o "count" apos e cpos := by exact ⟨rfl, rfl, rfl, rfl⟩) : EE X Wx (.Call (.Attribute o "count" apos) [e] [] cpos) (mCountT ma mx) := PE.weak (pe_cntT hu ho he m) fun σ H Q q =>
  TR.one q fun W H e μ d v r z p => by
    cases d with
    | tup xs =>
      obtain ⟨a, vs, rfl, g1, g2⟩ := z
      refine ⟨a, vs, rfl, g1, W, e, μ, r, (Post.bind (show Post X.K Wx (relV X.K) W H σ ((mx e μ).bind fun x => fCount (.tup xs) x) Q from p)).mono fun y H1 ⟨W1, x, e1, μ1, r1, z1, x1, p1⟩ => ?_⟩
      exact cnt_imp (d := .tup xs) (W := W) (H := H) (en := e) (μ := μ) r1 (RP.ext x1 (show RP X.K σ W H (.tup xs) (.ref a) from ⟨a, vs, rfl, g1, g2⟩)) z1 p1
    | _ => exact p.elim
theorem ee_countL (hu : X.A.units + 64 < cLine) (ho : EE X Wx o ma) (he : EE X Wx e mx) (m : M1 X o "count" apos e cpos := by exact ⟨rfl, rfl, rfl, rfl⟩) : EE X Wx (.Call (.Attribute o "count" apos) [e] [] cpos) (mCountL ma mx) := PE.weak (pe_cntL hu ho he m) fun σ H Q q =>
  TR.one q fun W H e μ d v r z p => by
    cases c : lstX e μ d with
    | none => rw [c] at p; exact p.elim
    | some xs =>
      rw [c] at p
      obtain ⟨a, vs, ea, g1, g2⟩ := lstX_ok r z c
      subst ea
      refine ⟨a, vs, rfl, .inl (.inl g1), W, e, μ, r, (Post.bind (show Post X.K Wx (relV X.K) W H σ ((mx e μ).bind fun x => fCount d x) Q from p)).mono fun y H1 ⟨W1, x, e1, μ1, r1, z1, x1, p1⟩ => ?_⟩
      have hd : d.isTup = false := by cases d <;> first | rfl | cases c
      have := cnt_imp (d := d) (W := W) (H := H) (en := e) (μ := μ) r1 (RP.ext x1 z) z1 p1
      rw [hd] at this
      exact this
end
/-! ### repr -/
def repB (p : PyData) : Bool := (p.showable && !p.hasDict) && (Nat.ble p.depth 20 && lineB p.shown.length)
def rRepD (K : PySem.W.Frag) : List V → Hp → VK → Prop := fun vs H Q => ∃ a p, vs = [.ref a] ∧ Dp K H (.ref a) p ∧ repB p = true ∧ Q (.str p.shown) H
def fRepr (d : D) : ME := fun e μ => match pdE e μ d with
  | some (.list xs) => (match repB (.list xs) with
    | true => .ok (.str (PyData.shown (.list xs))) e μ
    | false => .bad)
  | some (.tuple xs) => (match repB (.tuple xs) with
    | true => .ok (.str (PyData.shown (.tuple xs))) e μ
    | false => .bad)
  | _ => .bad
section
variable {X : Cx} {Wx : WX} {p pos : Pos} {e : Expr} {ml : Ma (List D)}
theorem cr_repr (hgd : X.A.guards = some []) (hu : X.A.units + 64 < cLine) : CallR X (.builtin "repr") (rRepD X.K) := by
  intro pins s σ H vs us Q I r ⟨a, p, ev, hd, hb, q⟩
  subst ev
  obtain ⟨u, rfl, rx⟩ := vals1 r
  obtain ⟨as, rd⟩ := Dp.reads I p _ u hd rx
  cases rx
  obtain ⟨c12, c34⟩ := Bool.and_eq_true_iff.mp hb
  obtain ⟨c1, c2⟩ := Bool.and_eq_true_iff.mp c12
  obtain ⟨c3, c4⟩ := Bool.and_eq_true_iff.mp c34
  have hdep : p.depth ≤ 20 := Nat.le_of_ble_eq_true c3
  refine repr_of_reads' (h₀ := s.heap) rd c1 (PyData.noDict_hsm (by simpa using c2)) hgd (by omega) (fun _ _ q => q) (fun h' u tk k => ⟨.str p.shown, H, I.kept k, ⟨u, rfl⟩, q⟩) (lineB_ok c4)
theorem l_repr : ArL X.K Wx (relV X.K) (rRepD X.K) (one fRepr) := fun σ W H e μ ds vs Q r h p => by
  obtain ⟨d, v, rfl, rfl, h1, p⟩ := one_ok h p
  unfold fRepr at p
  cases z : pdE e μ d with
  | none => rw [z] at p; exact p.elim
  | some pp =>
    have hd := pdE_ok r h1 z
    rw [z] at p
    cases pp with
    | list xs =>
      simp only at p
      cases c : repB (.list xs) with
      | false => rw [c] at p; exact p.elim
      | true =>
        rw [c] at p
        cases hd with
        | lst g1 g2 => exact ⟨_, .list xs, rfl, .lst g1 g2, c, Post.ok p r (RP.of rfl)⟩
    | tuple xs =>
      simp only at p
      cases c : repB (.tuple xs) with
      | false => rw [c] at p; exact p.elim
      | true =>
        rw [c] at p
        cases hd with
        | tup g1 g2 => exact ⟨_, .tuple xs, rfl, .tup g1 g2, c, Post.ok p r (RP.of rfl)⟩
    | _ => exact p.elim
theorem ee_repr (hgd : X.A.guards = some []) (hu : X.A.units + 64 < cLine) (hg : Gl X "repr") (hm : X.mg "repr" = none) (hv : bootBuiltins "repr" = some (.builtin "repr")) (ha : EA X Wx [e] ml) (he : starEach [e] X.env = (false, eval e X.env) :: starEach [] X.env := by rfl) : EE X Wx (.Call (.Name "repr" p) [e] [] pos) (mBind ml (one fRepr)) :=
  ep_callB (cr_repr hgd hu) l_repr hg hm hv ha (by decide) (by decide) he rfl
end
end Ev

set_option maxRecDepth 100000
set_option maxHeartbeats 4000000
/-! Ev14: what a printed derivation leans on. -/
namespace Ev
open PySem PySem.Spec PyProof.Rows L2
variable [PWo]
theorem val_imp {K : PySem.W.Frag} {Wx : WX} {σ : St} {H : Hp} {m : Ma O} {Q : VK} (q : TR K Wx (relV K) (mVal m) σ H Q) : TR K Wx (relO K) m σ H Q := by
  refine TR.one q fun W H en μ o v r z p => ?_
  obtain ⟨a, rfl, f⟩ := z
  cases hv : o.val with
  | none => rw [hv] at p; exact p.elim
  | some d =>
    rw [hv] at p
    exact p (W.freeze a) H _ Ext.freeze (f.freeze r) (RP.of (f.1.frozen hv))
section
variable {X : Cx} {Wx : WX} {elt tg iter tg1 iter1 : Expr} {ifs ifs1 : List Expr} {scope : Scope} {own : List (Str × Nat)} {vs1 : List Nat} {pos py spos : Pos} {mi mi1 : Ma (List D)} {g g1 : Tg} {t t1 : Ma Bool} {m : ME} {i : Nat} {y : Str}
theorem es_lcv (hc : X.calm = true) (hN : X.N.Nodup) (hy : X.N[i]? = some y) (hyl : X.env.scope.names.lookup y = some .local) (hsw : swapsWith (.ListComp elt [⟨tg, iter, ifs, 0⟩] scope pos) (some (.Name y py)) spos.line X.env = pure true) (hi : EI X Wx tg iter mi) (ok : BlkOk X.N X.env.scope scope own)
    (hg : Blk X scope fun Y => EGW Y noX (own.map (·.2)) tg g) (ht : Blk X scope fun Y => ETs Y noX ifs t) (he : Blk X scope fun Y => EE Y noX elt m) (hs : ∀ x, foldedSetIterable iter X.env x = pure x := by intro _; rfl) :
    ES X Wx (.Assign [.Name y py] (.ListComp elt [⟨tg, iter, ifs, 0⟩] scope pos) spos) (sSet i (mVal (mLc mi (own.map (·.2)) g t m))) :=
  es_set_of (ps_setLc (g := TGqW X.K noX (own.map fun (p : Str × Nat) => p.2) g) (tt := TR X.K noX relB t) (te := TR X.K noX (relV X.K) m) hc hN hy hyl hsw hi ok hg ht he hs) fun σ H Q q => lc_imp (val_imp q)
theorem es_lc2v (hc : X.calm = true) (hN : X.N.Nodup) (hy : X.N[i]? = some y) (hyl : X.env.scope.names.lookup y = some .local) (hsw : swapsWith (.ListComp elt [⟨tg, iter, ifs, 0⟩, ⟨tg1, iter1, ifs1, 0⟩] scope pos) (some (.Name y py)) spos.line X.env = pure true) (hi : EI X Wx tg iter mi)
    (ok : BlkOk X.N X.env.scope scope own) (hv : ∀ i ∈ vs1, i ∈ own.map (·.2)) (hg : Blk X scope fun Y => EGW Y noX (own.map (·.2)) tg g) (ht : Blk X scope fun Y => ETs Y noX ifs t)
    (hi1 : Blk X scope fun Y => EI Y noX tg1 iter1 mi1) (hg1 : Blk X scope fun Y => EGW Y noX vs1 tg1 g1) (ht1 : Blk X scope fun Y => ETs Y noX ifs1 t1) (he : Blk X scope fun Y => EE Y noX elt m)
    (hs : ∀ x, foldedSetIterable iter X.env x = pure x := by intro _; rfl) (hs1 : ∀ env x, foldedSetIterable iter1 env x = pure x := by intro _ _; rfl) :
    ES X Wx (.Assign [.Name y py] (.ListComp elt [⟨tg, iter, ifs, 0⟩, ⟨tg1, iter1, ifs1, 0⟩] scope pos) spos) (sSet i (mVal (mLc2 mi (own.map (·.2)) vs1 g t mi1 g1 t1 m))) :=
  es_set_of (ps_setLc2 (g := TGqW X.K noX (own.map fun (p : Str × Nat) => p.2) g) (tt := TR X.K noX relB t) (wi1 := fun σ H R => TR X.K noX (relI X.K) mi1 σ H R) (g1 := TGqW X.K noX vs1 g1) (tt1 := TR X.K noX relB t1) (te := TR X.K noX (relV X.K) m) hc hN hy hyl hsw hi ok hv hg ht hi1 hg1 ht1 he hs hs1) fun σ H Q q => lc2_imp hv (val_imp q)
variable {x : Str} {z : Str} {n : Int} {a : Addr} {zs : List Str} {p : Pos}
theorem ee_gstr (hg : Gl X x) (h : ∃ t, X.mg x = some (.str z t)) (hd : (x == ("__debug__" : Str)) = false := by decide) : EE X Wx (.Name x p) (mC (.str z)) := let ⟨t, h⟩ := h; ee_c (pe_glob (v := .str z) hg h ⟨t, rfl⟩ hd) fun _ _ => rfl
theorem ee_gint (hg : Gl X x) (h : ∃ t, X.mg x = some (.int n t)) (hd : (x == ("__debug__" : Str)) = false := by decide) : EE X Wx (.Name x p) (mC (.int n)) := let ⟨t, h⟩ := h; ee_c (pe_glob (v := .int n) hg h ⟨t, rfl⟩ hd) fun _ _ => rfl
theorem rvs_strs {K : PySem.W.Frag} {W : Wd} {H : Hp} : ∀ ns : List Str, RVs K W H (ns.map D.str) (ns.map V.str)
  | [] => rfl
  | n :: r => ⟨_, _, rfl, rfl, rvs_strs r⟩
theorem ee_gtup (hg : Gl X x) (h : X.mg x = some (.ref a)) (hs : ∀ H, SqT X.K H a (zs.map V.str)) (hd : (x == ("__debug__" : Str)) = false := by decide) : EE X Wx (.Name x p) (mC (.ktp (zs.map .str))) := ee_c (pe_glob (v := .ref a) hg h rfl hd) fun W H => ⟨a, _, rfl, .inr hs, rvs_strs zs⟩
theorem ee_append {o e : Expr} {apos cpos : Pos} {mo : ME} {ml : Ma (List D)} (ho : EE X Wx o mo) (ha : EA X Wx [e] ml) (hbase : attributeBase o "append" X.env (eval o X.env) = eval o X.env := by rfl)
    (hfew : ((backTo cpos (starEach [e] X.env)).all (fun x => !x.1) && (backToKw cpos (keywordEach [] X.env)).all (fun x => x.1.isSome) && decide (([e] : List Expr).length + ([] : List Keyword).length + (if ([] : List Keyword).isEmpty then 0 else 1) < 30)) = true := by rfl)
    (hline : (apos.endLine == cpos.line) = true := by rfl) (hs : starEach [e] X.env = (false, eval e X.env) :: starEach [] X.env := by rfl) (hplain : (backTo cpos (starEach [] X.env)).any (·.1) = false := by rfl) : EE X Wx (.Call (.Attribute o "append" apos) [e] [] cpos) (mMeth mo ml fAppend) :=
  ee_lm PySem.F.slot_list_append PySem.F.type_list_append mt_append l_append ho ha hbase hfew hline hs hplain
theorem ee_pop {o e : Expr} {apos cpos : Pos} {mo : ME} {ml : Ma (List D)} (ho : EE X Wx o mo) (ha : EA X Wx [e] ml) (hbase : attributeBase o "pop" X.env (eval o X.env) = eval o X.env := by rfl)
    (hfew : ((backTo cpos (starEach [e] X.env)).all (fun x => !x.1) && (backToKw cpos (keywordEach [] X.env)).all (fun x => x.1.isSome) && decide (([e] : List Expr).length + ([] : List Keyword).length + (if ([] : List Keyword).isEmpty then 0 else 1) < 30)) = true := by rfl)
    (hline : (apos.endLine == cpos.line) = true := by rfl) (hs : starEach [e] X.env = (false, eval e X.env) :: starEach [] X.env := by rfl) (hplain : (backTo cpos (starEach [] X.env)).any (·.1) = false := by rfl) : EE X Wx (.Call (.Attribute o "pop" apos) [e] [] cpos) (mMeth mo ml fPop) :=
  ee_lm PySem.F.slot_list_pop PySem.F.type_list_pop mt_popA l_pop ho ha hbase hfew hline hs hplain
end
def mBad : ME := fun _ _ => .bad
theorem ee_bad {X : Cx} {Wx : WX} {e : Expr} : EE X Wx e mBad := ⟨fun pins s σ H Q I q => by
  obtain ⟨W, en, μ, r, p⟩ := q
  exact p.elim⟩
/-- a def that keeps its promise, as callers take it -/
structure FnB (K : PySem.W.Frag) (mg : Str → Option Value) (base : Heap) (x : Str) (d : He.DefD) (k : Nat) (ps : List Str) (mf : MF) (fd : FuncData) : Prop where
  g : FnG PWo.P PWo.w K mg base k (He.fAd K (x, none)) fd ps mf
  f : FunD K d.name d.qual d.params d.body d.scope (d.dvs K) (d.kws K) (He.fAd K (x, none)) fd
  m : mg x = some (.ref (He.fAd K (x, none)))
section
variable {X : Cx} {Wx : WX} {j n : Nat} {x : Str} {d : He.DefD} {k : Nat} {ps ks : List Str} {mf : MF} {fd : FuncData} {plan : List Nat} {p pos : Pos} {e : Expr} {es : List Expr} {kws : List Keyword} {ma mk : Ma (List D)} {mg : Str → Option Value} {base : Heap}
theorem ee_fn {K : PySem.W.Frag} (F : FnB K mg base x d j ps mf fd) (hb : BindG K fd ps n [] plan []) (hX : X.prog = PWo.P ∧ X.w = PWo.w ∧ X.K = K ∧ X.mg = mg ∧ X.base = base) (hr : Room k X.A) (hj : j ≤ k) (hgd : X.A.guards = some []) (tk : Takes X Wx) (hg : Gl X x) (ha : EA X Wx (e :: es) ma)
    (hdb : (x == ("__debug__" : Str)) = false := by decide) (he : starEach (e :: es) X.env = (false, eval e X.env) :: starEach es X.env := by rfl) (hpl : (backTo pos (starEach es X.env)).any (·.1) = false := by rfl) : EE X Wx (.Call (.Name x p) (e :: es) [] pos) (mCall mf plan [] n ma) := by
  obtain ⟨h1, h2, h3, h4, h5⟩ := hX
  subst h3 h4 h5
  have g := F.g
  rw [← h1, ← h2] at g
  exact ee_call (dv := []) g (hr.mono hj) hgd tk hg F.m F.f.kp hb .nil (fun _ _ => rfl) ha hdb he hpl
theorem ee_fnK0 {K : PySem.W.Frag} (F : FnB K mg base x d j ps mf fd) (hb : BindG K fd ps 0 ks plan []) (hX : X.prog = PWo.P ∧ X.w = PWo.w ∧ X.K = K ∧ X.mg = mg ∧ X.base = base) (hr : Room k X.A) (hj : j ≤ k) (hgd : X.A.guards = some []) (tk : Takes X Wx) (hg : Gl X x) (hkw : EK X Wx kws mk)
    (hall : (backToKw pos (keywordEach kws X.env)).all (·.1.isSome) = true := by rfl) (hks : (backToKw pos (keywordEach kws X.env)).filterMap (·.1) = ks := by rfl) (hdb : (x == ("__debug__" : Str)) = false := by decide)
    (hpl : ((backTo pos (starEach [] X.env)).any (·.1) || (backToKw pos (keywordEach kws X.env)).any (·.1.isNone)) = false := by rfl) : EE X Wx (.Call (.Name x p) [] kws pos) (mCallK mf plan [] 0 ks.length aNil mk) := by
  obtain ⟨h1, h2, h3, h4, h5⟩ := hX
  subst h3 h4 h5
  have g := F.g
  rw [← h1, ← h2] at g
  exact ee_callK0 (dv := []) g (hr.mono hj) hgd tk hg F.m F.f.kp hb .nil (fun _ _ => rfl) hkw hall hks hdb hpl
end
theorem noTakes {X : Cx} : Takes X noX := fun u s' ⟨_, _, _, _, _, _, _, _, _, _, _, _, _, _, _, _, w⟩ => w.elim
end Ev

set_option maxRecDepth 100000
set_option maxHeartbeats 4000000
/-! Ev15: a law's end. -/
namespace Ev
open PySem PySem.Spec PyProof.Rows L2
/-- the promise at the script -/
theorem spf_law [PWo] {K : PySem.W.Frag} {mf : MF} {H : Hp} {a : Addr} {ns : List Int} (hm : ∃ μ, mf [.scr (ns.map .int)] [] = .ok (.bl true) μ)
    (hs : (∃ o, H a = some (.frz o (.lst (ns.map V.int)))) ∨ ∀ H', SqL K H' a (ns.map V.int)) : SpF K mf [.ref a] H (fun v _ => v = .bl true) fun _ _ _ => False := by
  obtain ⟨μ, hm⟩ := hm
  have fin : ∀ (W : Wd), RelS K W H [] → ((W.F a ∧ Rd H a (.lst (ns.map V.int))) ∨ ∀ H', SqL K H' a (ns.map V.int)) → SpF K mf [.ref a] H (fun v _ => v = .bl true) fun _ _ _ => False := fun W r h => by
    refine ⟨W, [.scr (ns.map .int)], [], r, ⟨.ref a, [], rfl, ⟨a, _, rfl, h, rvs_ints ns⟩, rfl⟩, ?_⟩
    rw [hm]
    exact fun W1 H1 v x r1 q => q
  rcases hs with ⟨o, hs⟩ | hs
  · refine fin ⟨[], fun b => b = a, fun _ => False⟩ ⟨rfl, fun n o b h1 _ => by simp at h1, fun b h => by simp at h, List.nodup_nil, fun b _ h => h, fun b h => ?_⟩ (.inl ⟨rfl, .inr ⟨o, hs⟩⟩)
    rcases h with h | h
    · have h' : b = a := h
      subst h'
      rw [hs]
      exact fun z => nomatch z
    · exact h.elim
  · exact fin ⟨[], fun _ => False, fun _ => False⟩ ⟨rfl, fun n o b h1 _ => by simp at h1, fun b h => by simp at h, List.nodup_nil, fun b _ h => h, fun b h => by rcases h with h | h <;> exact h.elim⟩ (.inr hs)
theorem law_at [PWo] {K : PySem.W.Frag} {mg mb : Str → Option Value} {k : Nat} {fa a : Addr} {fd : FuncData} {x : Str} {mf : MF} {s1 : Shared} {vs : List Value} {ns : List Int} (KX : K.In s1.heap) (hns : s1.heap.Ns mainGlobals mg) (hb : s1.heap.Ns builtinsNs mb)
    (hbb : ∀ x : Str, x ≠ "__name__" → mb x = bootBuiltins x) (hlim : s1.heap.NoLimit) (hg : s1.gens = #[]) (ha : s1.heap.get? a = some { cls := .type "list", data := .seq vs.toArray }) (hi : IntsAre vs ns) (hl : ns.length ≤ sizeLine) (hr : Room k callerA)
    (F : ∀ base : Heap, K.In base → base.Ns mainGlobals mg → FnG PWo.P PWo.w K mg base k fa fd [x] mf) (hbind : ∀ (s : Shared) (u : Value), BindsTo s fd ⟨[u], []⟩ [(x, u)]) (hm : ∃ μ, mf [.scr (ns.map .int)] [] = .ok (.bl true) μ) :
    codeAny (model PWo.P PWo.w) callerA (.call (.ref fa) ⟨[.ref a], []⟩) (fun r s' => r = .ok (.ret (.bool true)) ∧ OldK s1.heap s'.heap ∧ s'.os = s1.os ∧ AllBare s'.gens) s1 := by
  have rv := vals_ints hi
  have lenV := hi.length
  have main : ∀ H : Hp, (∀ b, H b ≠ none → b = a ∧ ∃ o, H a = some (.frz o (.lst (ns.map V.int)))) → ((∃ o, H a = some (.frz o (.lst (ns.map V.int)))) ∨ ∀ H', SqL K H' a (ns.map V.int)) → HOk PWo.P PWo.w H s1.heap → (H a ≠ none → K.lookup a = none) →
      codeAny (model PWo.P PWo.w) callerA (.call (.ref fa) ⟨[.ref a], []⟩) (fun r s' => r = .ok (.ret (.bool true)) ∧ OldK s1.heap s'.heap ∧ s'.os = s1.os ∧ AllBare s'.gens) s1 := by
    intro H hA hS hok hK
    have dictFree : ∀ {b : Addr} {o : Obj} {es : Array DictEntry} {ep : Nat}, s1.heap.get? b = some o → o.data = .dict es ep → H b = none := fun {b o es ep} e d => by
      cases q : H b with
      | none => rfl
      | some u =>
        obtain ⟨rfl, _⟩ := hA b (by rw [q]; simp)
        rw [ha] at e
        cases e
        have d' : Data.seq vs.toArray _ = Data.dict es ep := d
        cases d'
    have down : ∀ {b : Addr} {m : Str → Option Value}, s1.heap.Ns b m → (hidT s1.heap H).Ns b m := fun {b m} ⟨o, es, ep, e, d, r⟩ => ⟨o, es, ep, hidT_get e (dictFree e d), d, r⟩
    have kin : K.In (hidT s1.heap H) := fun b o e => hidT_get (KX b o e) (by
      cases q : H b with
      | none => rfl
      | some u =>
        obtain ⟨rfl, _⟩ := hA b (by rw [q]; simp)
        rw [hK (by rw [q]; simp)] at e
        cases e)
    obtain ⟨mc, l1, l2⟩ := hlim
    have md : Mod K mg (hidT s1.heap H) := ⟨kin, down hns, ⟨mb, down hb, hbb⟩, mc, down l1, l2⟩
    have e0 : Env0 PWo.P PWo.w K mg (hidT s1.heap H) callerA [] s1 H := ⟨rfl, md, fun b o e => of_hidT e, Nat.le_of_eq (hidT_size _ _), trivial, fun b hb => (nomatch (show b ∈ ([] : List Addr) from hb)), hok, .of_eq hg⟩
    refine codeAny_mono ((F _ kin (down hns)).run callerA [] s1 H ⟨[.ref a], []⟩ [.ref a] [.ref a] _ _ hr rfl e0 (hbind s1 (.ref a)) (.cons rfl .nil) (spf_law hm hS)) fun r s' h => ?_
    cases r with
    | error e =>
      obtain ⟨_, _, _, _, _, _, _, _, _, _, _, _, z⟩ := h
      exact z.elim
    | ok fl =>
      cases fl with
      | next => exact h.elim
      | brk => exact h.elim
      | cont => exact h.elim
      | ret u =>
        obtain ⟨v, H', os, bare, un, hok', r', q⟩ := h
        have q' : v = .bl true := q
        subst q'
        obtain rfl : u = Value.bool true := r'
        refine ⟨rfl, OldK.of_keep fun b o e => ?_, os, bare⟩
        cases q : H b with
        | none => exact un.keep b o e q (fun z => (nomatch (show b ∈ ([] : List Addr) from z))) (by simp)
        | some u =>
          obtain ⟨rfl, ob, z⟩ := hA b (by rw [q]; simp)
          obtain ⟨e1, _⟩ := hok b _ z
          obtain ⟨e2, _⟩ := hok' b _ (un.frzs b ob _ z)
          rw [e] at e1
          cases e1
          exact e2
  cases hk : K.lookup a with
  | some o =>
    have e := KX a o hk
    rw [ha] at e
    cases e
    exact main (fun _ => none) (fun b z => absurd rfl z) (.inr fun H' => .inr ⟨_, vs.toArray, _, hk, rfl, rfl, rfl, by rw [List.size_toArray, lenV]; exact hl, by simpa using rv⟩) (fun b u z => by cases (show (none : Option HO) = some u from z)) (fun z => absurd rfl z)
  | none =>
    have at_ : (fun b => if b = a then some (HO.frz { cls := .type "list", data := .seq vs.toArray } (.lst (ns.map V.int))) else none) a = some (HO.frz { cls := .type "list", data := .seq vs.toArray } (.lst (ns.map V.int))) := if_pos rfl
    refine main (fun b => if b = a then some (.frz { cls := .type "list", data := .seq vs.toArray } (.lst (ns.map V.int))) else none) (fun b z => ?_) (.inl ⟨_, at_⟩) (fun b u z => ?_) fun _ => hk
    · by_cases hb : b = a
      · exact ⟨hb, _, at_⟩
      · exact absurd (if_neg hb) z
    · by_cases hb : b = a
      · have z' := (if_pos hb).symm.trans z
        cases z'
        subst hb
        exact ⟨ha, by rw [List.length_map]; exact hl, vs, _, rv, ha⟩
      · have z' := (if_neg hb).symm.trans z
        cases z'
/-- a law: F gives the written part, the function object, the promise over every base -/
theorem walk_ev {l : PySem.W.OpenLaw} {n k : Nat} {q : Program} {loose : List Str} {XP : (Str → Option Value) → Heap → Prop} {YP : World → Heap → Prop} {d : DefRec} {x : Str} {mf : MF} (hn : l.most = some n) (hn2 : n ≤ sizeLine) (hdf : d.params.defaults = []) (hr : Room k callerA)
    (F : ∀ (w : World) (mg : Str → Option Value) (fa : Addr) (h : Heap), YP w h → h.Ns mainGlobals mg → mg d.name = some (.ref fa) →
      ∃ (K : PySem.W.Frag) (fd : FuncData), K.In h ∧ (∀ (s : Shared) (u : Value), BindsTo s fd ⟨[u], []⟩ [(x, u)]) ∧ ∀ base : Heap, K.In base → base.Ns mainGlobals mg → @FnG ⟨l.prog, w⟩ l.prog w K mg base k fa fd [x] mf)
    (hm : ∀ ns : List Int, ns.length ≤ n → ∃ μ, mf [.scr (ns.map .int)] [] = .ok (.bl true) μ) : PySem.W.WalkO q loose XP YP l.row.toRowW d [] (fun f vs => PySem.call f vs) := by
  refine Att.attach_call hn hdf fun w s0 s1 mg mb fa o pm cd doc a vs ns G Y ho hd hcd hmg hobj hints hlen hg => ?_
  obtain ⟨K, fd, KX, hb, hF⟩ := F w mg fa _ Y G.T.g hmg
  exact @law_at ⟨l.prog, w⟩ _ _ _ _ _ _ _ _ _ _ _ _ KX G.T.g G.T.b G.T.builtins G.T.nolimit hg hobj hints (Nat.le_trans hlen hn2) hr hF hb (hm ns hlen)
theorem fd_unique {K : PySem.W.Frag} {x qual : Str} {params : Arguments} {body : List Stmt} {scope : Scope} {dvs : List V} {kws : List (Str × V)} {f : Addr} {fd fd' : FuncData} (a : FunD K x qual params body scope dvs kws f fd) (b : FunD K x qual params body scope dvs kws f fd') : fd = fd' := by
  obtain ⟨oc, od, dV, kV, doc, pm, an, cdv, ct, osl, e1, lk, _⟩ := a.ex
  obtain ⟨oc', od', dV', kV', doc', pm', an', cdv', ct', osl', e1', lk', _⟩ := b.ex
  rw [lk] at lk'
  injection lk' with z
  injection z with _ _ z
  injection z
end Ev

set_option maxRecDepth 100000
set_option maxHeartbeats 4000000
/-! P3: breadth first, plainly: what a queue's or layers' walk finds is the distance -/
namespace Bf
variable {α : Type} [DecidableEq α]
def look : List α → List Int → α → Option Int
  | k :: ks, v :: vs, q => if k = q then some v else look ks vs q
  | _, _, _ => none
theorem look_mem : ∀ {ks : List α} {vs : List Int} {q : α} {v : Int}, look ks vs q = some v → q ∈ ks ∧ v ∈ vs
  | [], _, _, _, h => by cases h
  | _ :: _, [], _, _, h => by cases h
  | k :: ks, w :: vs, q, v, h => by
    rw [look] at h
    by_cases e : k = q
    · rw [if_pos e] at h
      cases h
      exact ⟨e ▸ List.mem_cons_self, List.mem_cons_self⟩
    · rw [if_neg e] at h
      have := look_mem h
      exact ⟨List.mem_cons_of_mem _ this.1, List.mem_cons_of_mem _ this.2⟩
theorem look_some : ∀ {ks : List α} {vs : List Int} {q : α}, ks.length = vs.length → q ∈ ks → ∃ v, look ks vs q = some v
  | k :: ks, [], q, l, _ => by cases l
  | k :: ks, w :: vs, q, l, h => by
    rw [look]
    by_cases e : k = q
    · exact ⟨w, if_pos e⟩
    · rw [if_neg e]
      exact look_some (by simpa using l) ((List.mem_cons.mp h).resolve_left fun z => e z.symm)
theorem look_none {ks : List α} {vs : List Int} {q : α} (l : ks.length = vs.length) : look ks vs q = none ↔ q ∉ ks := by
  constructor
  · intro h z
    obtain ⟨v, e⟩ := look_some l z
    rw [h] at e
    cases e
  · intro h
    cases e : look ks vs q with
    | none => rfl
    | some v => exact absurd (look_mem e).1 h
theorem look_snoc : ∀ {ks : List α} {vs : List Int} {y q : α} {d : Int}, ks.length = vs.length → look (ks ++ [y]) (vs ++ [d]) q = (look ks vs q).or (if y = q then some d else none)
  | [], [], y, q, d, _ => rfl
  | [], _ :: _, _, _, _, l => by cases l
  | _ :: _, [], _, _, _, l => by cases l
  | k :: ks, w :: vs, y, q, d, l => by
    rw [List.cons_append, List.cons_append, look, look]
    by_cases e : k = q
    · rw [if_pos e, if_pos e]; rfl
    · rw [if_neg e, if_neg e]
      exact look_snoc (by simpa using l)
theorem look_at : ∀ {ks : List α} {vs : List Int} {i : Nat} {x : α} {c : Int}, ks.Nodup → ks[i]? = some x → vs[i]? = some c → look ks vs x = some c
  | [], _, i, x, c, _, h, _ => by simp at h
  | _ :: _, [], i, x, c, _, _, h => by simp at h
  | k :: ks, w :: vs, 0, x, c, nd, h, h2 => by
    simp at h h2
    rw [look, if_pos h, h2]
  | k :: ks, w :: vs, i + 1, x, c, nd, h, h2 => by
    have nd' := List.nodup_cons.mp nd
    have h' : ks[i]? = some x := by simpa using h
    have hk : ¬ k = x := fun e => nd'.1 (by rw [e]; exact List.mem_of_getElem? h')
    rw [look, if_neg hk]
    exact look_at nd'.2 h' (by simpa using h2)
structure Core (N : α → List α) (x0 : α) (ks : List α) (vs : List Int) : Prop where
  nd : ks.Nodup
  len : ks.length = vs.length
  z : look ks vs x0 = some 0
  up : ∀ y k, look ks vs y = some k → (y = x0 ∧ k = 0) ∨ ∃ x, look ks vs x = some (k - 1) ∧ y ∈ N x
  bd : ∀ k ∈ vs, 0 ≤ k ∧ k < vs.length
structure Bfs (N : α → List α) (x0 : α) (ks : List α) (vs : List Int) : Prop extends Core N x0 ks vs where
  dn : ∀ x k, look ks vs x = some k → ∀ y ∈ N x, ∃ k', look ks vs y = some k' ∧ k' ≤ k + 1
theorem half {N N' : α → List α} {x0 : α} {ks ks' : List α} {vs vs' : List Int} (hN : ∀ x y, y ≠ x → y ∈ N x → y ∈ N' x) (A : Core N x0 ks vs) (B : Bfs N' x0 ks' vs') :
    ∀ (n : Nat) (y : α) (k : Int), look ks vs y = some k → k ≤ n → ∃ k', look ks' vs' y = some k' ∧ k' ≤ k := by
  intro n
  induction n with
  | zero =>
    intro y k h hk
    rcases A.up y k h with ⟨e1, e2⟩ | ⟨x, h1, h2⟩
    · subst e1 e2
      exact ⟨0, B.z, Int.le_refl _⟩
    · have := A.bd _ (look_mem h1).2
      have hk' : k ≤ 0 := hk
      omega
  | succ n ih =>
    intro y k h hk
    rcases A.up y k h with ⟨e1, e2⟩ | ⟨x, h1, h2⟩
    · subst e1 e2
      exact ⟨0, B.z, Int.le_refl _⟩
    · obtain ⟨kx, g1, g2⟩ := ih x (k - 1) h1 (by push_cast at hk; omega)
      have ne : y ≠ x := fun e => by
        subst e
        rw [h] at h1
        injection h1 with h1
        omega
      obtain ⟨ky, g3, g4⟩ := B.dn x kx g1 y (hN x y ne h2)
      exact ⟨ky, g3, by omega⟩
theorem unique {N N' : α → List α} {x0 : α} {ks ks' : List α} {vs vs' : List Int} (hN : ∀ x y, y ≠ x → (y ∈ N x ↔ y ∈ N' x)) (A : Bfs N x0 ks vs) (B : Bfs N' x0 ks' vs') (y : α) : look ks vs y = look ks' vs' y := by
  have h1 := half (fun x y e => (hN x y e).mp) A.toCore B
  have h2 := half (fun x y e => (hN x y e).mpr) B.toCore A
  have nn : ∀ k : Int, 0 ≤ k → k ≤ ((k.toNat : Nat) : Int) := fun k h => by omega
  cases e : look ks vs y with
  | none =>
    cases e' : look ks' vs' y with
    | none => rfl
    | some k =>
      obtain ⟨k', g, _⟩ := h2 _ y k e' (nn k (B.bd _ (look_mem e').2).1)
      rw [e] at g
      cases g
  | some k =>
    obtain ⟨k', g1, g2⟩ := h1 _ y k e (nn k (A.bd _ (look_mem e).2).1)
    obtain ⟨k'', g3, g4⟩ := h2 _ y k' g1 (nn k' (B.bd _ (look_mem g1).2).1)
    rw [e] at g3
    injection g3 with g3
    rw [g1]
    have : k = k' := by omega
    rw [this]
/-- what holds at the start and goes on with each step holds at all that is found -/
theorem all_of {N : α → List α} {x0 : α} {ks : List α} {vs : List Int} {P : α → Prop} (A : Core N x0 ks vs) (h0 : P x0) (hs : ∀ x y, P x → y ∈ N x → P y) : ∀ y ∈ ks, P y := by
  have key : ∀ (n : Nat) (y : α) (k : Int), look ks vs y = some k → k ≤ n → P y := by
    intro n
    induction n with
    | zero =>
      intro y k h hk
      rcases A.up y k h with ⟨e1, e2⟩ | ⟨x, h1, h2⟩
      · exact e1 ▸ h0
      · have := A.bd _ (look_mem h1).2
        have hk' : k ≤ 0 := hk
        omega
    | succ n ih =>
      intro y k h hk
      rcases A.up y k h with ⟨e1, e2⟩ | ⟨x, h1, h2⟩
      · exact e1 ▸ h0
      · exact hs x y (ih x (k - 1) h1 (by push_cast at hk; omega)) h2
  intro y hy
  obtain ⟨k, e⟩ := look_some A.len hy
  exact key k.toNat y k e (by have := (A.bd _ (look_mem e).2).1; omega)
inductive Reach (N : α → List α) (x0 : α) : α → Prop
  | here : Reach N x0 x0
  | step {x y : α} : Reach N x0 x → y ∈ N x → Reach N x0 y
theorem Reach.trans {N : α → List α} {x y z : α} (h : Reach N x y) (h2 : Reach N y z) : Reach N x z := by
  induction h2 with
  | here => exact h
  | step _ b ih => exact .step ih b
theorem found {N : α → List α} {x0 : α} {ks : List α} {vs : List Int} (A : Bfs N x0 ks vs) {y : α} (h : Reach N x0 y) : y ∈ ks := by
  induction h with
  | here => exact (look_mem A.z).1
  | step a b ih =>
    obtain ⟨k, e⟩ := look_some A.len ih
    obtain ⟨k', e', _⟩ := A.dn _ k e _ b
    exact (look_mem e').1
/-- before the place j is looked at; c: the distance of the place before it -/
structure Inv (N : α → List α) (x0 : α) (ks : List α) (vs : List Int) (j : Nat) (c : Int) : Prop extends Core N x0 ks vs where
  mono : vs.Pairwise (· ≤ ·)
  top : ∀ k ∈ vs, k ≤ c + 1
  low : ∀ i, j ≤ i → ∀ k, vs[i]? = some k → c ≤ k
  dn : ∀ i, i < j → ∀ x k, ks[i]? = some x → vs[i]? = some k → ∀ y ∈ N x, ∃ k', look ks vs y = some k' ∧ k' ≤ k + 1
/-- while x at j is looked at, r is left of its neighbours -/
structure Now (N : α → List α) (x0 : α) (ks : List α) (vs : List Int) (j : Nat) (c : Int) (x : α) (r : List α) : Prop extends Inv N x0 ks vs j c where
  hx : ks[j]? = some x
  hc : vs[j]? = some c
  sub : ∀ y ∈ r, y ∈ N x
  rest : ∀ y ∈ N x, y ∈ r ∨ ∃ k', look ks vs y = some k' ∧ k' ≤ c + 1
theorem Now.at_ {N : α → List α} {x0 : α} {ks : List α} {vs : List Int} {j : Nat} {c : Int} {x : α} {r : List α} (h : Now N x0 ks vs j c x r) : look ks vs x = some c := look_at h.nd h.hx h.hc
theorem inv_start {N : α → List α} {x0 : α} : Inv N x0 [x0] [0] 0 0 where
  nd := by simp
  len := rfl
  z := by simp [look]
  up y k h := by
    rw [look] at h
    by_cases e : x0 = y
    · rw [if_pos e] at h
      injection h with h
      exact .inl ⟨e.symm, h.symm⟩
    · rw [if_neg e] at h
      cases h
  bd k h := by
    rw [List.mem_singleton.mp h]
    exact ⟨by decide, by decide⟩
  mono := by simp
  top k h := by
    rw [List.mem_singleton.mp h]
    decide
  low i _ k h := by
    have := (look_mem (look_at (ks := [x0]) (x := x0) (i := i) (by simp) (by
      cases i with
      | zero => rfl
      | succ i => simp at h) h)).2
    rw [List.mem_singleton.mp this]
    decide
  dn i hi := absurd hi (Nat.not_lt_zero _)
theorem Inv.now {N : α → List α} {x0 : α} {ks : List α} {vs : List Int} {j : Nat} {c : Int} {x : α} (h : Inv N x0 ks vs j c) (hx : ks[j]? = some x) : ∃ c', vs[j]? = some c' ∧ Now N x0 ks vs j c' x (N x) := by
  have hj : j < vs.length := by rw [← h.len]; exact (List.getElem?_eq_some_iff.mp hx).1
  refine ⟨vs[j], List.getElem?_eq_getElem hj, ?_⟩
  have e := List.getElem?_eq_getElem hj
  have lo := h.low j (Nat.le_refl _) _ e
  refine { h with top := fun k hk => ?_, low := fun i hi k hk => ?_, hx := hx, hc := e, sub := fun _ z => z, rest := fun y hy => .inl hy }
  · have := h.top k hk
    omega
  · obtain ⟨hi', ek⟩ := List.getElem?_eq_some_iff.mp hk
    rcases Nat.lt_or_ge j i with hl | hl
    · have := List.pairwise_iff_getElem.mp h.mono j i hj hi' hl
      omega
    · have : i = j := by omega
      subst this
      omega
theorem Now.old {N : α → List α} {x0 : α} {ks : List α} {vs : List Int} {j : Nat} {c : Int} {x y : α} {r : List α} (h : Now N x0 ks vs j c x (y :: r)) (hy : (look ks vs y).isSome = true) : Now N x0 ks vs j c x r := by
  refine { h with sub := fun z hz => h.sub z (List.mem_cons_of_mem _ hz), rest := fun z hz => ?_ }
  rcases h.rest z hz with q | q
  · rcases List.mem_cons.mp q with rfl | q
    · cases e : look ks vs z with
      | none => rw [e] at hy; cases hy
      | some k => exact .inr ⟨k, rfl, h.top k (look_mem e).2⟩
    · exact .inl q
  · exact .inr q
theorem Now.new {N : α → List α} {x0 : α} {ks : List α} {vs : List Int} {j : Nat} {c : Int} {x y : α} {r : List α} (h : Now N x0 ks vs j c x (y :: r)) (hy : look ks vs y = none) : Now N x0 (ks ++ [y]) (vs ++ [c + 1]) j c x r := by
  have hn := (look_none h.len).mp hy
  have lk : ∀ q k, look ks vs q = some k → look (ks ++ [y]) (vs ++ [c + 1]) q = some k := fun q k e => by rw [look_snoc h.len, e]; rfl
  have self : look (ks ++ [y]) (vs ++ [c + 1]) y = some (c + 1) := by rw [look_snoc h.len, hy, if_pos rfl]; rfl
  have hl := h.len
  have hj : j < vs.length := (List.getElem?_eq_some_iff.mp h.hc).1
  have hcm : c ∈ vs := List.mem_of_getElem? h.hc
  refine { nd := ?_, len := by simp [h.len], z := lk _ _ h.z, up := fun q k e => ?_, bd := fun k hk => ?_, mono := ?_, top := fun k hk => ?_, low := fun i hi k hk => ?_, dn := fun i hi q k e1 e2 u hu => ?_, hx := ?_, hc := ?_, sub := fun z hz => h.sub z (List.mem_cons_of_mem _ hz), rest := fun z hz => ?_ }
  · exact List.nodup_append.mpr ⟨h.nd, by simp, fun a ha b hb => by rw [List.mem_singleton.mp hb]; exact fun e => hn (e ▸ ha)⟩
  · rw [look_snoc h.len] at e
    cases e2 : look ks vs q with
    | some k' =>
      rw [e2] at e
      cases e
      rcases h.up q k e2 with q1 | ⟨u, q1, q2⟩
      · exact .inl q1
      · exact .inr ⟨u, lk _ _ q1, q2⟩
    | none =>
      rw [e2] at e
      have e' : (if y = q then some (c + 1) else none) = some k := e
      by_cases eq : y = q
      · rw [if_pos eq] at e'
        cases e'
        subst eq
        exact .inr ⟨x, by rw [show c + 1 - 1 = c by omega]; exact lk _ _ h.at_, h.sub y List.mem_cons_self⟩
      · rw [if_neg eq] at e'
        cases e'
  · rw [List.length_append]
    rcases List.mem_append.mp hk with hk | hk
    · have := h.bd k hk
      simp; omega
    · rw [List.mem_singleton.mp hk]
      have := h.bd c hcm
      simp; omega
  · exact List.pairwise_append.mpr ⟨h.mono, by simp, fun a ha b hb => by rw [List.mem_singleton.mp hb]; exact h.top a ha⟩
  · rcases List.mem_append.mp hk with hk | hk
    · exact h.top k hk
    · rw [List.mem_singleton.mp hk]; omega
  · rcases Nat.lt_or_ge i vs.length with hi' | hi'
    · rw [List.getElem?_append_left hi'] at hk
      exact h.low i hi k hk
    · rw [List.getElem?_append_right hi'] at hk
      have := List.mem_of_getElem? hk
      rw [List.mem_singleton.mp this]; omega
  · rw [List.getElem?_append_left (by omega)] at e1
    rw [List.getElem?_append_left (by omega)] at e2
    obtain ⟨k', g1, g2⟩ := h.dn i hi q k e1 e2 u hu
    exact ⟨k', lk _ _ g1, g2⟩
  · rw [List.getElem?_append_left (by omega)]; exact h.hx
  · rw [List.getElem?_append_left hj]; exact h.hc
  · rcases h.rest z hz with q | ⟨k', q1, q2⟩
    · rcases List.mem_cons.mp q with rfl | q
      · exact .inr ⟨c + 1, self, Int.le_refl _⟩
      · exact .inl q
    · exact .inr ⟨k', lk _ _ q1, q2⟩
theorem Now.end_ {N : α → List α} {x0 : α} {ks : List α} {vs : List Int} {j : Nat} {c : Int} {x : α} (h : Now N x0 ks vs j c x []) : Inv N x0 ks vs (j + 1) c := by
  refine { h with low := fun i hi => h.low i (by omega), dn := fun i hi q k e1 e2 u hu => ?_ }
  rcases Nat.lt_or_ge i j with hl | hl
  · exact h.dn i hl q k e1 e2 u hu
  · have : i = j := by omega
    subst this
    rw [h.hx] at e1
    rw [h.hc] at e2
    cases e1
    cases e2
    rcases h.rest u hu with q | q
    · cases q
    · exact q
theorem Inv.end_ {N : α → List α} {x0 : α} {ks : List α} {vs : List Int} {j : Nat} {c : Int} (h : Inv N x0 ks vs j c) (hj : ks.length ≤ j) : Bfs N x0 ks vs := by
  refine { h with dn := fun x k e y hy => ?_ }
  obtain ⟨i, hi, ei⟩ := List.getElem_of_mem (look_mem e).1
  have hi2 : i < vs.length := by rw [← h.len]; exact hi
  have e1 : ks[i]? = some x := by rw [List.getElem?_eq_getElem hi, ei]
  have e2 := List.getElem?_eq_getElem hi2
  have := look_at h.nd e1 e2
  rw [e] at this
  injection this with this
  obtain ⟨k', g1, g2⟩ := h.dn i (by omega) x _ e1 e2 y hy
  exact ⟨k', g1, by omega⟩
end Bf

set_option maxRecDepth 100000
set_option maxHeartbeats 4000000
/-! Ty1: the mirrors' functions with Lean types: results, codes of values, slots, judgements. -/
namespace Ty
open PySem PySem.Spec PyProof.Rows L2 Ev

inductive Rt (α : Type) where
  | ok (a : α) | ex (x : Ex) | bad
def Rt.bind {α β : Type} (r : Rt α) (f : α → Rt β) : Rt β := match r with
  | .ok a => f a
  | .ex x => .ex x
  | .bad => .bad
section
variable {α β γ : Type}
@[simp] theorem Rt.ok_bind (a : α) (f : α → Rt β) : (Rt.ok a).bind f = f a := rfl
@[simp] theorem Rt.ex_bind (x : Ex) (f : α → Rt β) : (Rt.ex x : Rt α).bind f = .ex x := rfl
@[simp] theorem Rt.bad_bind (f : α → Rt β) : (Rt.bad : Rt α).bind f = .bad := rfl
theorem Rt.bind_assoc (r : Rt α) (f : α → Rt β) (g : β → Rt γ) : (r.bind f).bind g = r.bind fun a => (f a).bind g := by cases r <;> rfl
theorem Rt.bind_ok (r : Rt α) : r.bind .ok = r := by cases r <;> rfl
end

/-! ### codes -/
structure Cd (α : Type) where
  d : α → D
  pl : ∀ a, (d a).plain = true
structure Cq (α : Type) where
  d : α → List D
  n : Nat
  len : ∀ a, (d a).length = n
  pl : ∀ a, plains (d a) = true
abbrev Pv := { d : D // d.plain = true }
def cI : Cd Int := ⟨.int, fun _ => rfl⟩
def cB : Cd Bool := ⟨.bl, fun _ => rfl⟩
def cS : Cd Str := ⟨.str, fun _ => rfl⟩
def cN : Cd Unit := ⟨fun _ => .non, fun _ => rfl⟩
def cA : Cd Pv := ⟨fun a => a.1, fun a => a.2⟩
def cR : Cd Nat := ⟨.ref, fun _ => rfl⟩
section
variable {α β : Type}
def cT (c : Cd α) : Cd (List α) := ⟨fun xs => .tup (xs.map c.d), fun _ => rfl⟩
def cL (c : Cd α) : Cd (List α) := ⟨fun xs => .lst (xs.map c.d), fun _ => rfl⟩
def cK (c : Cd α) : Cd (List α) := ⟨fun xs => .ktp (xs.map c.d), fun _ => rfl⟩
def cScr (c : Cd α) : Cd (List α) := ⟨fun xs => .scr (xs.map c.d), fun _ => rfl⟩
def oD (c : Cd α) : Option α → D
  | some a => c.d a
  | none => .non
def cO (c : Cd α) : Cd (Option α) := ⟨oD c, fun a => match a with
  | some a => c.pl a
  | none => rfl⟩
def q0 : Cq Unit := ⟨fun _ => [], 0, fun _ => rfl, fun _ => rfl⟩
def q1 (c : Cd α) : Cq α := ⟨fun a => [c.d a], 1, fun _ => rfl, fun a => by simp only [plains, c.pl, Bool.and_true]⟩
def qc (c : Cd α) (q : Cq β) : Cq (α × β) := ⟨fun p => c.d p.1 :: q.d p.2, q.n + 1, fun p => by rw [List.length_cons, q.len], fun p => by simp only [plains, c.pl, q.pl, Bool.and_true]⟩
def cP (q : Cq α) : Cd α := ⟨fun a => .tup (q.d a), fun _ => rfl⟩
def cPL (q : Cq α) : Cd α := ⟨fun a => .lst (q.d a), fun _ => rfl⟩
def cPK (q : Cq α) : Cd α := ⟨fun a => .ktp (q.d a), fun _ => rfl⟩
def cM (c : Cd α) (c' : Cd β) : Cd (List (α × β)) := ⟨fun kv => .dic true (kv.map fun p => c.d p.1) (kv.map fun p => c'.d p.2), fun _ => rfl⟩
/-- objects of a slot -/
def oL (c : Cd α) (xs : List α) : O := .lst (xs.map c.d)
def oPL (q : Cq α) (a : α) : O := .lst (q.d a)
def oM (c : Cd α) (c' : Cd β) (kv : List (α × β)) : O := .dic true (kv.map fun p => c.d p.1) (kv.map fun p => c'.d p.2)
def anyOf (c : Cd α) (a : α) : Pv := ⟨c.d a, c.pl a⟩
end
theorem plains_map {α : Type} (c : Cd α) : ∀ xs : List α, plains (xs.map c.d) = true
  | [] => rfl
  | x :: xs => by simp only [List.map_cons, plains, c.pl, plains_map c xs, Bool.and_true]

/-! ### slots -/
abbrev Ctx := List (Nat × LV)
def look : Ctx → Nat → Option LV
  | [], _ => none
  | (j, l) :: r, i => match Nat.beq j i with
    | true => some l
    | false => look r i
def del : Ctx → Nat → Ctx
  | [], _ => []
  | (j, l) :: r, i => match Nat.beq j i with
    | true => del r i
    | false => (j, l) :: del r i
def put (G : Ctx) (i : Nat) (l : LV) : Ctx := (i, l) :: del G i
def dels (G : Ctx) : List Nat → Ctx
  | [] => G
  | v :: vs => del (dels G vs) v
structure Hs (n : Nat) (G : Ctx) (e : En) : Prop where
  len : e.length = n
  has : ∀ p ∈ G, e[p.1]? = some p.2
def Ent (G G' : Ctx) : Prop := ∀ p ∈ G', p ∈ G
theorem Hs.ent {n : Nat} {G G' : Ctx} {e : En} (h : Hs n G e) (k : Ent G G') : Hs n G' e := ⟨h.len, fun p hp => h.has p (k p hp)⟩
theorem Ent.refl {G : Ctx} : Ent G G := fun _ h => h
theorem Ent.trans {G G' G'' : Ctx} (a : Ent G G') (b : Ent G' G'') : Ent G G'' := fun p h => a p (b p h)
theorem look_mem : ∀ {G : Ctx} {i : Nat} {l : LV}, look G i = some l → (i, l) ∈ G
  | [], _, _, h => by cases h
  | (j, l') :: r, i, l, h => by
    rw [look] at h
    cases c : Nat.beq j i with
    | true =>
      rw [c] at h
      cases h
      rw [Nat.eq_of_beq_eq_true c]
      exact List.mem_cons_self
    | false =>
      rw [c] at h
      exact List.mem_cons_of_mem _ (look_mem h)
theorem Hs.look {n : Nat} {G : Ctx} {e : En} {i : Nat} {l : LV} (h : Hs n G e) (k : look G i = some l) : e[i]? = some l := h.has _ (look_mem k)
theorem mem_del : ∀ {G : Ctx} {i : Nat} {p : Nat × LV}, p ∈ del G i ↔ p ∈ G ∧ p.1 ≠ i
  | [], i, p => by simp [del]
  | (j, l) :: r, i, p => by
    rw [del]
    cases c : Nat.beq j i with
    | true =>
      have e := Nat.eq_of_beq_eq_true c
      simp only [mem_del, List.mem_cons]
      constructor
      · intro ⟨h1, h2⟩
        exact ⟨.inr h1, h2⟩
      · rintro ⟨h1 | h1, h2⟩
        · rw [h1] at h2
          exact absurd e h2
        · exact ⟨h1, h2⟩
    | false =>
      have e := Nat.ne_of_beq_eq_false c
      simp only [mem_del, List.mem_cons]
      constructor
      · rintro (h1 | ⟨h1, h2⟩)
        · rw [h1]
          exact ⟨.inl rfl, e⟩
        · exact ⟨.inr h1, h2⟩
      · rintro ⟨h1 | h1, h2⟩
        · exact .inl h1
        · exact .inr ⟨h1, h2⟩
theorem mem_dels {G : Ctx} {p : Nat × LV} : ∀ {vs : List Nat}, p ∈ dels G vs ↔ p ∈ G ∧ p.1 ∉ vs
  | [] => by simp [dels]
  | v :: vs => by
    rw [dels, mem_del, mem_dels]
    simp only [List.mem_cons, not_or]
    constructor
    · rintro ⟨⟨h1, h2⟩, h3⟩
      exact ⟨h1, h3, h2⟩
    · rintro ⟨h1, h3, h2⟩
      exact ⟨⟨h1, h2⟩, h3⟩
theorem Hs.put {n : Nat} {G : Ctx} {e : En} {i : Nat} {l : LV} (h : Hs n G e) (hi : Nat.blt i n = true) : Hs n (put G i l) (e.set i l) := by
  have hi' : i < n := Nat.le_of_ble_eq_true hi
  refine ⟨by rw [List.length_set]; exact h.len, fun p hp => ?_⟩
  rcases List.mem_cons.mp hp with rfl | hp
  · rw [List.getElem?_set_self (by rw [h.len]; exact hi')]
  · obtain ⟨h1, h2⟩ := mem_del.mp hp
    rw [List.getElem?_set_ne (fun z => h2 z.symm)]
    exact h.has p h1
/-- each slot asked for is there -/
def Looks (G : Ctx) : Ctx → Prop
  | [] => True
  | (i, l) :: r => look G i = some l ∧ Looks G r
theorem Looks.ent {G : Ctx} : ∀ {G' : Ctx}, Looks G G' → Ent G G'
  | [], _ => fun _ h => nomatch h
  | (i, l) :: r, ⟨h1, h2⟩ => fun p hp => by
    rcases List.mem_cons.mp hp with rfl | hp
    · exact look_mem h1
    · exact Looks.ent h2 p hp

/-! ### judgements -/
def RG {α β : Type} (n : Nat) (f : α → β) (G : Ctx) (μ : Mu) (r : Rs β) (t : Rt α) : Prop := match t with
  | .ok a => ∃ e', r = .ok (f a) e' μ ∧ Hs n G e'
  | .ex x => ∃ e', r = .ex x e' μ
  | .bad => True
/-- m, where the slots are as in G, is t; G' behind -/
def TG {α β : Type} (n : Nat) (G : Ctx) (m : Ma β) (f : α → β) (t : Rt α) (G' : Ctx) : Prop := ∀ e μ, Hs n G e → RG n f G' μ (m e μ) t
abbrev TE {α : Type} (n : Nat) (G : Ctx) (m : ME) (c : Cd α) (t : Rt α) (G' : Ctx) : Prop := TG n G m c.d t G'
abbrev TT (n : Nat) (G : Ctx) (m : Ma Bool) (t : Rt Bool) (G' : Ctx) : Prop := TG n G m (fun b : Bool => b) t G'
section
variable {α β γ δ : Type} {n : Nat} {G G1 G2 G3 : Ctx}
theorem tg_bind {m : Ma β} {k : β → Ma δ} {f : α → β} {g : γ → δ} {t : Rt α} {u : α → Rt γ} (h : TG n G m f t G1) (h2 : ∀ a, TG n G1 (k (f a)) g (u a) G2) : TG n G (mBind m k) g (t.bind u) G2 := by
  intro e μ he
  have h := h e μ he
  unfold mBind
  cases t with
  | ok a =>
    obtain ⟨e1, h3, h4⟩ := h
    rw [h3]
    exact h2 a e1 μ h4
  | ex x =>
    obtain ⟨e1, h3⟩ := h
    rw [h3]
    exact ⟨e1, rfl⟩
  | bad => trivial
theorem tg_ok {m : Ma β} {f : α → β} {a : α} (h : ∀ e μ, Hs n G e → m e μ = .ok (f a) e μ) : TG n G m f (.ok a) G := fun e μ he => ⟨e, h e μ he, he⟩
theorem tg_map {m : Ma β} {k : β → Ma δ} {f : α → β} {g : γ → δ} {t : Rt α} {u : α → γ} (h : TG n G m f t G1) (h2 : ∀ a e μ, Hs n G1 e → k (f a) e μ = .ok (g (u a)) e μ) : TG n G (mBind m k) g (t.bind fun a => .ok (u a)) G1 :=
  tg_bind h fun a => tg_ok fun e μ he => h2 a e μ he
/-- the same, told of the same thing -/
theorem tg_same {m : Ma β} {k : β → Ma δ} {f : α → β} {g : α → δ} {t : Rt α} (h : TG n G m f t G1) (h2 : ∀ a e μ, Hs n G1 e → k (f a) e μ = .ok (g a) e μ) : TG n G (mBind m k) g t G1 := by
  have := tg_map (u := fun a => a) h h2
  rwa [Rt.bind_ok] at this
theorem tg_ent {m : Ma β} {f : α → β} {t : Rt α} (h : TG n G m f t G1) (k : Ent G1 G2) : TG n G m f t G2 := by
  intro e μ he
  have h := h e μ he
  cases t with
  | ok a =>
    obtain ⟨e1, h3, h4⟩ := h
    exact ⟨e1, h3, h4.ent k⟩
  | ex x => exact h
  | bad => trivial
theorem tg_pre {m : Ma β} {f : α → β} {t : Rt α} (k : Ent G G1) (h : TG n G1 m f t G2) : TG n G m f t G2 := fun e μ he => h e μ (he.ent k)

/-! ### names, constants -/
theorem te_c {c : Cd α} {a : α} : TE n G (mC (c.d a)) c (.ok a) G := tg_ok fun _ _ _ => rfl
theorem te_int {i : Int} : TE n G (mC (.int i)) cI (.ok i) G := te_c
theorem te_bl {b : Bool} : TE n G (mC (.bl b)) cB (.ok b) G := te_c
theorem te_str {b : Str} : TE n G (mC (.str b)) cS (.ok b) G := te_c
theorem te_non : TE n G (mC .non) cN (.ok ()) G := te_c
theorem te_var {c : Cd α} {i : Nat} {a : α} (h : look G i = some (.val (c.d a))) : TE n G (mVar i) c (.ok a) G := tg_ok fun e μ he => by
  unfold mVar
  rw [he.look h]
/-- an own object given away -/
theorem te_frzL {c : Cd α} {i : Nat} {xs : List α} (h : look G i = some (.own (oL c xs))) (hi : Nat.blt i n = true) : TE n G (mFrz i) (cL c) (.ok xs) (put G i (.val ((cL c).d xs))) := fun e μ he => by
  refine ⟨e.set i (.val ((cL c).d xs)), ?_, he.put hi⟩
  unfold mFrz
  rw [he.look h]
  rfl
theorem te_frzM {c : Cd α} {c' : Cd β} {i : Nat} {xs : List (α × β)} (h : look G i = some (.own (oM c c' xs))) (hi : Nat.blt i n = true) : TE n G (mFrz i) (cM c c') (.ok xs) (put G i (.val ((cM c c').d xs))) := fun e μ he => by
  refine ⟨e.set i (.val ((cM c c').d xs)), ?_, he.put hi⟩
  unfold mFrz
  rw [he.look h]
  rfl
/-! ### other codes of the same value -/
theorem te_any {m : ME} {c : Cd α} {t : Rt α} (h : TE n G m c t G1) : TE n G m cA (t.bind fun a => .ok (anyOf c a)) G1 := by
  intro e μ he
  have h := h e μ he
  cases t with
  | ok a => exact h
  | ex x => exact h
  | bad => trivial
theorem te_some {m : ME} {c : Cd α} {t : Rt α} (h : TE n G m c t G1) : TE n G m (cO c) (t.bind fun a => .ok (some a)) G1 := by
  intro e μ he
  have h := h e μ he
  cases t with
  | ok a => exact h
  | ex x => exact h
  | bad => trivial
theorem te_none {m : ME} {c : Cd α} {t : Rt Unit} (h : TE n G m cN t G1) : TE n G m (cO c) (t.bind fun _ => .ok none) G1 := by
  intro e μ he
  have h := h e μ he
  cases t with
  | ok a => exact h
  | ex x => exact h
  | bad => trivial
/-- any change of the code that leaves the datum -/
theorem te_re {m : ME} {c : Cd α} {c' : Cd β} {t : Rt α} (u : α → β) (h : TE n G m c t G1) (k : ∀ a, c.d a = c'.d (u a)) : TE n G m c' (t.bind fun a => .ok (u a)) G1 := by
  intro e μ he
  have h := h e μ he
  cases t with
  | ok a =>
    obtain ⟨e1, h3, h4⟩ := h
    exact ⟨e1, by rw [h3, k], h4⟩
  | ex x => exact h
  | bad => trivial
/-- .. or that is only sure of some -/
theorem te_cast {m : ME} {c : Cd α} {c' : Cd β} {t : Rt α} (u : α → Rt β) (h : TE n G m c t G1) (k : ∀ a, match u a with | .ok b => c.d a = c'.d b | .ex _ => False | .bad => True) : TE n G m c' (t.bind u) G1 := by
  intro e μ he
  have h := h e μ he
  cases t with
  | ok a =>
    obtain ⟨e1, h3, h4⟩ := h
    have k := k a
    rw [Rt.ok_bind]
    cases z : u a with
    | ok b =>
      rw [z] at k
      exact ⟨e1, by rw [h3, k], h4⟩
    | ex x =>
      rw [z] at k
      exact k.elim
    | bad => trivial
  | ex x => exact h
  | bad => trivial

/-! ### operators of two values -/
def OpT {α β γ δ : Type} (c1 : Cd α) (c2 : Cd β) (f3 : γ → δ) (f : D → D → Ma δ) (op : α → β → Rt γ) : Prop := ∀ a b, match op a b with
  | .ok r => ∀ e μ, f (c1.d a) (c2.d b) e μ = .ok (f3 r) e μ
  | .ex _ => False
  | .bad => True
def UnT {α γ δ : Type} (c1 : Cd α) (f3 : γ → δ) (f : D → Ma δ) (op : α → Rt γ) : Prop := ∀ a, match op a with
  | .ok r => ∀ e μ, f (c1.d a) e μ = .ok (f3 r) e μ
  | .ex _ => False
  | .bad => True
theorem te_op {c1 : Cd α} {c2 : Cd β} {f3 : γ → δ} {f : D → D → Ma δ} {op : α → β → Rt γ} {ma mb : ME} {t1 : Rt α} {t2 : Rt β} (o : OpT c1 c2 f3 f op) (h1 : TE n G ma c1 t1 G1) (h2 : TE n G1 mb c2 t2 G2) :
    TG n G (m2 f ma mb) f3 (t1.bind fun a => t2.bind fun b => op a b) G2 := tg_bind h1 fun a => tg_bind h2 fun b e μ he => by
  have o := o a b
  cases z : op a b with
  | ok r =>
    rw [z] at o
    exact ⟨e, o e μ, he⟩
  | ex x =>
    rw [z] at o
    exact o.elim
  | bad => trivial
theorem tg_un {c1 : Cd α} {f3 : γ → δ} {f : D → Ma δ} {op : α → Rt γ} {ma : ME} {t1 : Rt α} (o : UnT c1 f3 f op) (h1 : TE n G ma c1 t1 G1) : TG n G (mBind ma f) f3 (t1.bind fun a => op a) G1 := tg_bind h1 fun a e μ he => by
  have o := o a
  cases z : op a with
  | ok r =>
    rw [z] at o
    exact ⟨e, o e μ, he⟩
  | ex x =>
    rw [z] at o
    exact o.elim
  | bad => trivial
/-! ### arguments -/
abbrev TA {α : Type} (n : Nat) (G : Ctx) (m : Ma (List D)) (q : Cq α) (t : Rt α) (G' : Ctx) : Prop := TG n G m q.d t G'
theorem ta_nil : TA n G aNil q0 (.ok ()) G := tg_ok fun _ _ _ => rfl
theorem ta_one {c : Cd α} {m : ME} {t : Rt α} (h : TE n G m c t G1) : TA n G (aCons m aNil) (q1 c) t G1 := tg_same h fun _ _ _ _ => rfl
theorem ta_cons {c : Cd α} {q : Cq β} {m : ME} {ms : Ma (List D)} {t : Rt α} {u : Rt β} (h : TE n G m c t G1) (h2 : TA n G1 ms q u G2) : TA n G (aCons m ms) (qc c q) (t.bind fun a => u.bind fun b => .ok (a, b)) G2 :=
  tg_bind h fun a => tg_map h2 fun b e μ _ => rfl
/-- alike ones -/
def fH (c : Cd α) : List α → List D := fun xs => xs.map c.d
theorem th_nil {c : Cd α} : TG n G aNil (fH c) (.ok []) G := tg_ok fun _ _ _ => rfl
theorem th_cons {c : Cd α} {m : ME} {ms : Ma (List D)} {t : Rt α} {u : Rt (List α)} (h : TE n G m c t G1) (h2 : TG n G1 ms (fH c) u G2) : TG n G (aCons m ms) (fH c) (t.bind fun a => u.bind fun b => .ok (a :: b)) G2 :=
  tg_bind h fun a => tg_map h2 fun b e μ _ => rfl

/-! ### sequences: values, or own objects of slots -/
/-- d's items are xs wherever G holds -/
def SV (n : Nat) (G : Ctx) (d : D) (xs : List D) : Prop := ∀ e μ, Hs n G e → seqE e μ d = some xs
def TS {α : Type} (n : Nat) (G : Ctx) (m : ME) (c : Cd α) (t : Rt (List α)) (G' : Ctx) : Prop := ∀ e μ, Hs n G e → match t with
  | .ok xs => ∃ d e', m e μ = .ok d e' μ ∧ Hs n G' e' ∧ SV n G' d (xs.map c.d)
  | .ex x => ∃ e', m e μ = .ex x e' μ
  | .bad => True
theorem ts_T {c : Cd α} {m : ME} {t : Rt (List α)} (h : TE n G m (cT c) t G1) : TS n G m c t G1 := by
  intro e μ he
  have h := h e μ he
  cases t with
  | ok xs =>
    obtain ⟨e1, h3, h4⟩ := h
    exact ⟨_, e1, h3, h4, fun _ _ _ => rfl⟩
  | ex x => exact h
  | bad => trivial
theorem ts_K {c : Cd α} {m : ME} {t : Rt (List α)} (h : TE n G m (cK c) t G1) : TS n G m c t G1 := by
  intro e μ he
  have h := h e μ he
  cases t with
  | ok xs =>
    obtain ⟨e1, h3, h4⟩ := h
    exact ⟨_, e1, h3, h4, fun _ _ _ => rfl⟩
  | ex x => exact h
  | bad => trivial
theorem ts_L {c : Cd α} {m : ME} {t : Rt (List α)} (h : TE n G m (cL c) t G1) : TS n G m c t G1 := by
  intro e μ he
  have h := h e μ he
  cases t with
  | ok xs =>
    obtain ⟨e1, h3, h4⟩ := h
    exact ⟨_, e1, h3, h4, fun _ _ _ => rfl⟩
  | ex x => exact h
  | bad => trivial
theorem ts_scr {c : Cd α} {m : ME} {t : Rt (List α)} (h : TE n G m (cScr c) t G1) : TS n G m c t G1 := by
  intro e μ he
  have h := h e μ he
  cases t with
  | ok xs =>
    obtain ⟨e1, h3, h4⟩ := h
    exact ⟨_, e1, h3, h4, fun _ _ _ => rfl⟩
  | ex x => exact h
  | bad => trivial
theorem ts_own {c : Cd α} {i : Nat} {xs : List α} (h : look G i = some (.own (oL c xs))) : TS n G (mVar i) c (.ok xs) G := fun e μ he => by
  refine ⟨.loc i, e, ?_, he, fun e μ he => ?_⟩
  · unfold mVar
    rw [he.look h]
  · simp only [seqE, contE, he.look h]
    rfl
/-- an operation of a sequence alone -/
theorem ts_un {c : Cd α} {f3 : γ → δ} {f : D → Ma δ} {op : List α → Rt γ} {m : ME} {t : Rt (List α)} (o : ∀ xs, match op xs with | .ok r => ∀ d e μ, seqE e μ d = some (xs.map c.d) → f d e μ = .ok (f3 r) e μ | .ex _ => False | .bad => True)
    (h : TS n G m c t G1) : TG n G (mBind m f) f3 (t.bind fun xs => op xs) G1 := by
  intro e μ he
  have h := h e μ he
  unfold mBind
  cases t with
  | ok xs =>
    obtain ⟨d, e1, h3, h4, h5⟩ := h
    rw [h3, Rt.ok_bind]
    have o := o xs
    cases z : op xs with
    | ok r =>
      rw [z] at o
      exact ⟨e1, o d e1 μ (h5 e1 μ h4), h4⟩
    | ex x =>
      rw [z] at o
      exact o.elim
    | bad => trivial
  | ex x =>
    obtain ⟨e1, h3⟩ := h
    rw [h3]
    exact ⟨e1, rfl⟩
  | bad => trivial
/-- .. and of a value behind it that changes no slot -/
theorem ts_op {c : Cd α} {c2 : Cd β} {f3 : γ → δ} {f : D → D → Ma δ} {op : List α → β → Rt γ} {m mb : ME} {t : Rt (List α)} {t2 : Rt β} (o : ∀ xs b, match op xs b with | .ok r => ∀ d e μ, seqE e μ d = some (xs.map c.d) → f d (c2.d b) e μ = .ok (f3 r) e μ | .ex _ => False | .bad => True)
    (h : TS n G m c t G1) (h2 : TE n G1 mb c2 t2 G1) : TG n G (m2 f m mb) f3 (t.bind fun xs => t2.bind fun b => op xs b) G1 := by
  intro e μ he
  have h := h e μ he
  show RG n f3 G1 μ ((m e μ).bind fun x => mBind mb fun y => f x y) _
  cases t with
  | ok xs =>
    obtain ⟨d, e1, h3, h4, h5⟩ := h
    rw [h3, Rt.ok_bind]
    have h2 := h2 e1 μ h4
    show RG n f3 G1 μ ((mb e1 μ).bind fun y => f d y) _
    cases t2 with
    | ok b =>
      obtain ⟨e2, h6, h7⟩ := h2
      rw [h6, Rt.ok_bind]
      have o := o xs b
      cases z : op xs b with
      | ok r =>
        rw [z] at o
        exact ⟨e2, o d e2 μ (h5 e2 μ h7), h7⟩
      | ex x =>
        rw [z] at o
        exact o.elim
      | bad => trivial
    | ex x =>
      obtain ⟨e2, h3⟩ := h2
      rw [h3]
      exact ⟨e2, rfl⟩
    | bad => trivial
  | ex x =>
    obtain ⟨e1, h3⟩ := h
    rw [h3]
    exact ⟨e1, rfl⟩
  | bad => trivial
/-- a value, then a sequence -/
theorem op_ts {c : Cd α} {c2 : Cd β} {f3 : γ → δ} {f : D → D → Ma δ} {op : β → List α → Rt γ} {m mb : ME} {t : Rt (List α)} {t2 : Rt β} (o : ∀ b xs, match op b xs with | .ok r => ∀ d e μ, seqE e μ d = some (xs.map c.d) → f (c2.d b) d e μ = .ok (f3 r) e μ | .ex _ => False | .bad => True)
    (h2 : TE n G mb c2 t2 G1) (h : TS n G1 m c t G2) : TG n G (m2 f mb m) f3 (t2.bind fun b => t.bind fun xs => op b xs) G2 :=
  tg_bind h2 fun b => ts_un (o b) h
end
end Ty

set_option maxRecDepth 100000
set_option maxHeartbeats 4000000
/-! Ty2: operators, tests, displays, calls over Lean types. -/
namespace Ty
open PySem PySem.Spec PyProof.Rows L2 Ev

/-! ### equality of coded values -/
class CEq {α : Type} [DecidableEq α] (c : Cd α) where
  p : α → PyData
  pd : ∀ a, pdD (c.d a) = some (p a)
  plain : ∀ a, (p a).plain = true
  dep : Nat
  dle : ∀ a, (p a).depth ≤ dep
  eqv : ∀ a b, PyData.eqv (p a) (p b) = decide (a = b)
class CEqs {α : Type} [DecidableEq α] (q : Cq α) where
  ps : α → List PyData
  pds : ∀ a, pdDs (q.d a) = some (ps a)
  plain : ∀ a, PyData.plainAll (ps a) = true
  dep : Nat
  dle : ∀ a, PyData.depthAll (ps a) ≤ dep
  eqv : ∀ a b, PyData.eqvAll (ps a) (ps b) = decide (a = b)
instance : CEq cI := ⟨.int, fun _ => rfl, PySem.W.Datum.plain (α := Int), 0, PySem.W.Datum.depth_le (α := Int), PySem.W.Datum.eqv (α := Int)⟩
instance : CEq cB := ⟨.bool, fun _ => rfl, PySem.W.Datum.plain (α := Bool), 0, PySem.W.Datum.depth_le (α := Bool), PySem.W.Datum.eqv (α := Bool)⟩
instance : CEq cS := ⟨.str, fun _ => rfl, PySem.W.Datum.plain (α := Str), 0, PySem.W.Datum.depth_le (α := Str), PySem.W.Datum.eqv (α := Str)⟩
instance : CEq cN := ⟨fun _ => .none, fun _ => rfl, PySem.W.Datum.plain (α := Unit), 0, PySem.W.Datum.depth_le (α := Unit), PySem.W.Datum.eqv (α := Unit)⟩
section
variable {α β : Type} [DecidableEq α] [DecidableEq β]
theorem pds_map (c : Cd α) [CEq c] : ∀ xs : List α, pdDs (xs.map c.d) = some (xs.map (CEq.p c))
  | [] => rfl
  | x :: xs => by simp only [List.map_cons, pdDs, CEq.pd, pds_map c xs]
theorem plain_map (c : Cd α) [CEq c] : ∀ xs : List α, PyData.plainAll (xs.map (CEq.p c)) = true
  | [] => rfl
  | x :: xs => by
    rw [List.map_cons, PyData.plainAll, CEq.plain x, plain_map c xs]
    rfl
theorem depth_map (c : Cd α) [CEq c] : ∀ xs : List α, PyData.depthAll (xs.map (CEq.p c)) ≤ CEq.dep c
  | [] => Nat.zero_le _
  | x :: xs => by
    rw [List.map_cons, PyData.depthAll]
    exact Nat.max_le.mpr ⟨CEq.dle x, depth_map c xs⟩
theorem eqv_map (c : Cd α) [CEq c] : ∀ xs ys : List α, PyData.eqvAll (xs.map (CEq.p c)) (ys.map (CEq.p c)) = decide (xs = ys)
  | [], [] => by simp only [List.map_nil, PyData.eqvAll, decide_true]
  | [], _ :: _ => by simp [PyData.eqvAll]
  | _ :: _, [] => by simp [PyData.eqvAll]
  | x :: xs, y :: ys => by
    rw [List.map_cons, List.map_cons, PyData.eqvAll, CEq.eqv x y, eqv_map c xs ys, ← Bool.decide_and]
    exact decide_eq_decide.mpr (by rw [List.cons.injEq])
instance (c : Cd α) [CEq c] : CEq (cT c) := ⟨fun xs => .tuple (xs.map (CEq.p c)), fun xs => by simp only [cT, pdD, pds_map], fun xs => by simp only [PyData.plain]; exact plain_map c xs, CEq.dep c + 1, fun xs => by
  simp only [PyData.depth]
  have := depth_map c xs
  omega, fun xs ys => by simp only [PyData.eqv]; exact eqv_map c xs ys⟩
instance (c : Cd α) [CEq c] : CEq (cK c) := ⟨fun xs => .tuple (xs.map (CEq.p c)), fun xs => by simp only [cK, pdD, pds_map], fun xs => by simp only [PyData.plain]; exact plain_map c xs, CEq.dep c + 1, fun xs => by
  simp only [PyData.depth]
  have := depth_map c xs
  omega, fun xs ys => by simp only [PyData.eqv]; exact eqv_map c xs ys⟩
instance (c : Cd α) [CEq c] : CEq (cL c) := ⟨fun xs => .list (xs.map (CEq.p c)), fun xs => by simp only [cL, pdD, pds_map], fun xs => by simp only [PyData.plain]; exact plain_map c xs, CEq.dep c + 1, fun xs => by
  simp only [PyData.depth]
  have := depth_map c xs
  omega, fun xs ys => by simp only [PyData.eqv]; exact eqv_map c xs ys⟩
instance (c : Cd α) [CEq c] : CEqs (q1 c) := ⟨fun a => [CEq.p c a], fun a => by simp only [q1, pdDs, CEq.pd], fun a => by simp only [PyData.plainAll, CEq.plain, Bool.and_true], CEq.dep c, fun a => by
  simp only [PyData.depthAll]
  exact Nat.max_le.mpr ⟨CEq.dle a, Nat.zero_le _⟩, fun a b => by simp only [PyData.eqvAll, CEq.eqv, Bool.and_true]⟩
instance (c : Cd α) [CEq c] (q : Cq β) [CEqs q] : CEqs (qc c q) := ⟨fun a => CEq.p c a.1 :: CEqs.ps q a.2, fun a => by simp only [qc, pdDs, CEq.pd, CEqs.pds], fun a => by simp only [PyData.plainAll, CEq.plain, CEqs.plain, Bool.and_true], max (CEq.dep c) (CEqs.dep q), fun a => by
  simp only [PyData.depthAll]
  have h1 := CEq.dle (c := c) a.1
  have h2 := CEqs.dle (q := q) a.2
  omega, fun a b => by
  simp only [PyData.eqvAll, CEq.eqv, CEqs.eqv]
  rw [← Bool.decide_and]
  exact decide_eq_decide.mpr (by rw [← Prod.mk.injEq])⟩
instance (q : Cq α) [CEqs q] : CEq (cP q) := ⟨fun a => .tuple (CEqs.ps q a), fun a => by simp only [cP, pdD, CEqs.pds], fun a => by simp only [PyData.plain]; exact CEqs.plain a, CEqs.dep q + 1, fun a => by
  simp only [PyData.depth]
  have := CEqs.dle (q := q) a
  omega, fun a b => by simp only [PyData.eqv]; exact CEqs.eqv a b⟩
instance (q : Cq α) [CEqs q] : CEq (cPL q) := ⟨fun a => .list (CEqs.ps q a), fun a => by simp only [cPL, pdD, CEqs.pds], fun a => by simp only [PyData.plain]; exact CEqs.plain a, CEqs.dep q + 1, fun a => by
  simp only [PyData.depth]
  have := CEqs.dle (q := q) a
  omega, fun a b => by simp only [PyData.eqv]; exact CEqs.eqv a b⟩
instance (q : Cq α) [CEqs q] : CEq (cPK q) := ⟨fun a => .tuple (CEqs.ps q a), fun a => by simp only [cPK, pdD, CEqs.pds], fun a => by simp only [PyData.plain]; exact CEqs.plain a, CEqs.dep q + 1, fun a => by
  simp only [PyData.depth]
  have := CEqs.dle (q := q) a
  omega, fun a b => by simp only [PyData.eqv]; exact CEqs.eqv a b⟩
theorem pdE_of {d : D} {p : PyData} (h : pdD d = some p) (e : En) (μ : Mu) : pdE e μ d = some p := by
  cases d with
  | loc i => simp only [pdD] at h; cases h
  | ref n => simp only [pdD] at h; cases h
  | _ => exact h
theorem eqB_of {p : PyData} (h : p.plain = true) {k : Nat} (h2 : p.depth ≤ k) (h3 : Nat.ble k 64 = true) : eqB p = true := by
  have := Nat.le_of_ble_eq_true h3
  rw [eqB, h, Nat.ble_eq_true_of_le (Nat.le_trans h2 this)]; rfl
theorem o_eqB {c : Cd α} [CEq c] (neg : Bool) (hd : Nat.ble (CEq.dep c) 64 = true) : OpT c c cB.d (fEqB neg) fun a b => .ok (negB neg (decide (a = b))) := fun a b e μ => by
  simp only [fEqB, pdE_of (CEq.pd a), pdE_of (CEq.pd b), eqB_of (CEq.plain a) (CEq.dle a) hd, eqB_of (CEq.plain b) (CEq.dle b) hd, Bool.and_self, CEq.eqv]
  rfl
theorem o_eq {c : Cd α} [CEq c] (hd : Nat.ble (CEq.dep c) 64 = true) : OpT c c cB.d fEq fun a b => .ok (decide (a = b)) := o_eqB false hd
theorem o_ne {c : Cd α} [CEq c] (hd : Nat.ble (CEq.dep c) 64 = true) : OpT c c cB.d fNe fun a b => .ok (!decide (a = b)) := o_eqB true hd
/-- what one is no kind for is never the other -/
theorem te_eqOwn {n : Nat} {G : Ctx} {c : Cd α} [CEq c] {neg : Bool} {i : Nat} {xs : List α} {mb : ME} {t : Rt (List α)} (hd : Nat.ble (CEq.dep c) 63 = true) (h : look G i = some (.own (oL c xs))) (h2 : TE n G mb (cL c) t G) :
    TE n G (m2 (fEqB neg) (mVar i) mb) cB (t.bind fun ys => .ok (negB neg (decide (xs = ys)))) G := by
  intro e μ he
  have h2 := h2 e μ he
  have hv : mVar i e μ = .ok (.loc i) e μ := by
    unfold mVar
    rw [he.look h]
  show RG n cB.d G μ ((mVar i e μ).bind fun x => mBind mb fun y => fEqB neg x y) _
  rw [hv]
  show RG n cB.d G μ ((mb e μ).bind fun y => fEqB neg (.loc i) y) _
  cases t with
  | ok ys =>
    obtain ⟨e1, h3, h4⟩ := h2
    rw [h3]
    refine ⟨e1, ?_, h4⟩
    have p1 : pdE e1 μ (.loc i) = some (CEq.p (cL c) xs) := by
      simp only [pdE, seqE, contE, h4.look h, oL, Option.bind_some, O.items, pds_map, Option.map_some]
      rfl
    have hd' : Nat.ble (CEq.dep (cL c)) 64 = true := by
      have := Nat.le_of_ble_eq_true hd
      exact Nat.ble_eq_true_of_le (show CEq.dep c + 1 ≤ 64 by omega)
    show fEqB neg (.loc i) ((cL c).d ys) e1 μ = _
    simp only [fEqB, p1, pdE_of (CEq.pd (c := cL c) ys), eqB_of (CEq.plain (c := cL c) xs) (CEq.dle xs) hd', eqB_of (CEq.plain (c := cL c) ys) (CEq.dle ys) hd', Bool.and_self, CEq.eqv]
    rfl
  | ex x =>
    obtain ⟨e1, h3⟩ := h2
    rw [h3]
    exact ⟨e1, rfl⟩
  | bad => trivial
end

/-! ### whole numbers -/
theorem o_add : OpT cI cI cI.d fAdd fun a b => .ok (a + b) := fun _ _ _ _ => rfl
theorem o_sub : OpT cI cI cI.d fSub fun a b => .ok (a - b) := fun _ _ _ _ => rfl
def mulR (a b : Int) : Rt Int := match mulB a b with
  | true => .ok (a * b)
  | false => .bad
theorem o_mul : OpT cI cI cI.d fMul mulR := fun a b => by
  unfold mulR
  cases c : mulB a b with
  | true => exact fun e μ => by simp only [cI, fMul, c]
  | false => trivial
def modR (a b : Int) : Rt Int := match decide (0 < b) with
  | true => .ok (a % b)
  | false => .bad
theorem o_mod : OpT cI cI cI.d fMod modR := fun a b => by
  unfold modR
  cases c : decide (0 < b) with
  | true => exact fun e μ => by simp only [cI, fMod, fInt, c]
  | false => trivial
def divR (a b : Int) : Rt Int := match decide (0 < b) && szD b with
  | true => .ok (a / b)
  | false => .bad
theorem o_div : OpT cI cI cI.d fDiv divR := fun a b => by
  unfold divR
  cases c : decide (0 < b) && szD b with
  | true => exact fun e μ => by simp only [cI, fDiv, fInt, c]
  | false => trivial
def powR (a b : Int) : Rt Int := match decide (0 ≤ b) && (Nat.ble b.natAbs 1000000 && szB a) with
  | true => .ok (a ^ b.toNat)
  | false => .bad
theorem o_pow : OpT cI cI cI.d fPow powR := fun a b => by
  unfold powR
  cases c : decide (0 ≤ b) && (Nat.ble b.natAbs 1000000 && szB a) with
  | true => exact fun e μ => by simp only [cI, fPow, fInt, c]
  | false => trivial
theorem o_lt : OpT cI cI cB.d fLt fun a b => .ok (decide (a < b)) := fun _ _ _ _ => rfl
theorem o_le : OpT cI cI cB.d fLe fun a b => .ok (decide (a ≤ b)) := fun _ _ _ _ => rfl
theorem o_gt : OpT cI cI cB.d fGt fun a b => .ok (decide (b < a)) := fun _ _ _ _ => rfl
theorem o_ge : OpT cI cI cB.d fGe fun a b => .ok (decide (b ≤ a)) := fun _ _ _ _ => rfl
theorem u_abs : UnT cI cI.d fAbs fun a => .ok (if a < 0 then -a else a) := fun _ _ _ => rfl
theorem u_int : UnT cI cI.d fIntO fun a => .ok a := fun _ _ _ => rfl
theorem o_max2 : OpT cI cI cI.d fMax2 fun a b => .ok (if b > a then b else a) := fun _ _ _ _ => rfl
theorem o_min2 : OpT cI cI cI.d fMin2 fun a b => .ok (if b < a then b else a) := fun _ _ _ _ => rfl
theorem o_gcd : OpT cI cI cI.d fGcd fun a b => .ok ((Nat.gcd a.natAbs b.natAbs : Nat) : Int) := fun _ _ _ _ => rfl
def divmodR (a b : Int) : Rt (Int × Int) := match decide (0 < b) && szD b with
  | true => .ok (a / b, a % b)
  | false => .bad
theorem o_divmod : OpT cI cI (cPK (qc cI (q1 cI))).d fDivmod divmodR := fun a b => by
  unfold divmodR
  cases c : decide (0 < b) && szD b with
  | true => exact fun e μ => by simp only [cI, fDivmod, c]; rfl
  | false => trivial
def strR (i : Int) : Rt Str := match decide (i.natAbs.log2 < 1920) with
  | true => .ok (toString i)
  | false => .bad
theorem u_str : UnT cI cS.d fStrI strR := fun a => by
  unfold strR
  cases c : decide (a.natAbs.log2 < 1920) with
  | true => exact fun e μ => by simp only [cI, fStrI, c]; rfl
  | false => trivial

/-! ### texts, tuples, lists put together -/
def catR {α : Type} (xs ys : List α) : Rt (List α) := match lineB (xs.length + ys.length) with
  | true => .ok (xs ++ ys)
  | false => .bad
section
variable {α β γ : Type} {c : Cd α}
theorem o_addT : OpT (cT c) (cT c) (cT c).d fAdd catR := fun a b => by
  unfold catR
  cases z : lineB (a.length + b.length) with
  | true => exact fun e μ => by simp only [cT, fAdd, List.length_map, z, List.map_append]
  | false => trivial
theorem o_addL : OpT (cL c) (cL c) (cL c).d fAdd catR := fun a b => by
  unfold catR
  cases z : lineB (a.length + b.length) with
  | true => exact fun e μ => by simp only [cL, fAdd, lstX, List.length_map, z, List.map_append]
  | false => trivial
def addS (x y : Str) : Rt Str := match lineB (x.length + y.length) with
  | true => .ok (x ++ y)
  | false => .bad
theorem o_addS : OpT cS cS cS.d fAdd addS := fun a b => by
  unfold addS
  cases z : lineB (a.length + b.length) with
  | true => exact fun e μ => by simp only [cS, fAdd, z]
  | false => trivial
def repR (xs : List α) (k : Int) : Rt (List α) := match decide (0 ≤ k) && (decide (k ≤ 1000) && lineB (xs.length * k.toNat)) with
  | true => .ok (List.replicate k.toNat xs).flatten
  | false => .bad
theorem map_rep (f : α → β) (xs : List α) (k : Nat) : (List.replicate k (xs.map f)).flatten = ((List.replicate k xs).flatten).map f := by
  rw [List.map_flatten, List.map_replicate]
theorem o_repL : OpT (cL c) cI (cL c).d fMul repR := fun a b => by
  unfold repR
  cases z : decide (0 ≤ b) && (decide (b ≤ 1000) && lineB (a.length * b.toNat)) with
  | true => exact fun e μ => by simp only [cL, cI, fMul, lstX, List.length_map, z, map_rep]
  | false => trivial
def repTR (xs : List α) (k : Int) : Rt (List α) := match !xs.isEmpty && (decide (2 ≤ k) && (decide (k ≤ 1000) && Nat.ble xs.length 1000)) with
  | true => .ok (List.replicate k.toNat xs).flatten
  | false => .bad
theorem o_repT : OpT (cT c) cI (cK c).d fMul repTR := fun a b => by
  unfold repTR
  cases z : !a.isEmpty && (decide (2 ≤ b) && (decide (b ≤ 1000) && Nat.ble a.length 1000)) with
  | true =>
    intro e μ
    have e1 : (a.map c.d).isEmpty = a.isEmpty := by cases a <;> rfl
    simp only [cT, cK, cI, fMul, List.length_map, e1, z, map_rep]
  | false => trivial
end

/-! ### items, cuts, lengths -/
def ixR {α : Type} (xs : List α) (i : Int) : Rt α := match atI xs i with
  | some a => .ok a
  | none => .bad
section
variable {α β γ : Type} {n : Nat} {G G1 G2 G3 : Ctx} {c : Cd α}
theorem atI_map (xs : List α) (f : α → β) (i : Int) : atI (xs.map f) i = (atI xs i).map f := by
  simp only [atI, List.length_map]
  cases ixN xs.length i with
  | none => rfl
  | some j => simp only [Option.bind_some, List.getElem?_map]
theorem te_ix {m mb : ME} {t : Rt (List α)} {t2 : Rt Int} (h : TS n G m c t G1) (h2 : TE n G1 mb cI t2 G1) : TE n G (m2 fIx m mb) c (t.bind fun xs => t2.bind fun b => ixR xs b) G1 := ts_op (fun xs b => by
  unfold ixR
  cases z : atI xs b with
  | none => trivial
  | some a =>
      intro d e μ hs
      have hn : ∀ z, d ≠ .str z := fun z hz => by subst hz; simp only [seqE, contE, Option.bind_none] at hs; cases hs
      have key : fIx d (.int b) e μ = match seqE e μ d with
        | some xs => (match atI xs b with
          | some d => .ok d e μ
          | none => .bad)
        | none => .bad := by
        cases d with
        | str z => exact absurd rfl (hn z)
        | _ => rfl
      show fIx d (.int b) e μ = _
      rw [key, hs]
      simp only [atI_map, z, Option.map_some]) h h2
/-- an item of a tuple of unlike things -/
theorem te_ixP {q : Cq α} {c' : Cd β} {m : ME} {i : Int} {t : Rt α} (u : α → β) (h : TE n G m (cP q) t G1) (k : ∀ a, atI (q.d a) i = some (c'.d (u a))) : TE n G (m2 fIx m (mC (.int i))) c' (t.bind fun a => .ok (u a)) G1 :=
  tg_bind h fun a => tg_ok fun e μ _ => by
    show fIx (.tup (q.d a)) (.int i) e μ = _
    simp only [fIx, seqE, k]
theorem te_ixPK {q : Cq α} {c' : Cd β} {m : ME} {i : Int} {t : Rt α} (u : α → β) (h : TE n G m (cPK q) t G1) (k : ∀ a, atI (q.d a) i = some (c'.d (u a))) : TE n G (m2 fIx m (mC (.int i))) c' (t.bind fun a => .ok (u a)) G1 :=
  tg_bind h fun a => tg_ok fun e μ _ => by
    show fIx (.ktp (q.d a)) (.int i) e μ = _
    simp only [fIx, seqE, k]
def ixS (z : Str) (i : Int) : Rt Str := match lineB z.length, atI z.cps.toList i with
  | true, some c => .ok ⟨#[c]⟩
  | _, _ => .bad
theorem o_ixS : OpT cS cI cS.d fIx ixS := fun z i => by
  unfold ixS
  cases h : lineB z.length with
  | false => trivial
  | true =>
    cases h2 : atI z.cps.toList i with
    | none => trivial
    | some u => exact fun e μ => by simp only [cS, cI, fIx, h, h2]
abbrev TOp (n : Nat) (G : Ctx) (m : Ma (Option Int)) (t : Rt (Option Int)) (G' : Ctx) : Prop := TG n G m (fun a : Option Int => a) t G'
theorem to_none : TOp n G oNone (.ok none) G := tg_ok fun _ _ _ => rfl
theorem to_some {m : ME} {t : Rt Int} (h : TE n G m cI t G1) : TOp n G (oSome m) (t.bind fun a => .ok (some a)) G1 := tg_map h fun _ _ _ _ => rfl
theorem map_cutD (xs : List α) (f : α → β) (l h : Option Int) : Ev.cutD (xs.map f) l h = (Ev.cutD xs l h).map f := by
  simp only [Ev.cutD, List.length_map, List.map_drop, List.map_take]
theorem te_slT {m : ME} {ml mh : Ma (Option Int)} {t : Rt (List α)} {tl th : Rt (Option Int)} (h : TE n G m (cT c) t G1) (h1 : TOp n G1 ml tl G2) (h2 : TOp n G2 mh th G3) : TE n G (mSl m ml mh) (cT c) (t.bind fun xs => tl.bind fun l => th.bind fun h => .ok (cutD xs l h)) G3 :=
  tg_bind h fun xs => tg_bind h1 fun l => tg_map h2 fun r e μ _ => by
    show Rs.ok (D.tup (cutD (xs.map c.d) l r)) e μ = Rs.ok (D.tup ((cutD xs l r).map c.d)) e μ
    rw [map_cutD]
theorem te_slL {m : ME} {ml mh : Ma (Option Int)} {t : Rt (List α)} {tl th : Rt (Option Int)} (h : TE n G m (cL c) t G1) (h1 : TOp n G1 ml tl G2) (h2 : TOp n G2 mh th G3) : TE n G (mSl m ml mh) (cL c) (t.bind fun xs => tl.bind fun l => th.bind fun h => .ok (cutD xs l h)) G3 :=
  tg_bind h fun xs => tg_bind h1 fun l => tg_map h2 fun r e μ _ => by
    show Rs.ok (D.lst (cutD (xs.map c.d) l r)) e μ = Rs.ok (D.lst ((cutD xs l r).map c.d)) e μ
    rw [map_cutD]
theorem te_slScr {m : ME} {ml mh : Ma (Option Int)} {t : Rt (List α)} {tl th : Rt (Option Int)} (h : TE n G m (cScr c) t G1) (h1 : TOp n G1 ml tl G2) (h2 : TOp n G2 mh th G3) : TE n G (mSl m ml mh) (cL c) (t.bind fun xs => tl.bind fun l => th.bind fun h => .ok (cutD xs l h)) G3 :=
  tg_bind h fun xs => tg_bind h1 fun l => tg_map h2 fun r e μ _ => by
    show Rs.ok (D.lst (cutD (xs.map c.d) l r)) e μ = Rs.ok (D.lst ((cutD xs l r).map c.d)) e μ
    rw [map_cutD]
/-- one argument, then what is done with it -/
theorem tg_one {γ δ : Type} {n : Nat} {G G1 : Ctx} {f3 : γ → δ} {f : D → Ma δ} {m : ME} {t : Rt γ} (h : TG n G (mBind m f) f3 t G1) : TG n G (mBind (aCons m aNil) (one f)) f3 t G1 := by
  intro e μ he
  have h := h e μ he
  have key : mBind (aCons m aNil) (one f) e μ = mBind m f e μ := by
    unfold mBind aCons mBind aNil
    cases m e μ <;> rfl
  rw [key]
  exact h
theorem tg_two {γ δ : Type} {n : Nat} {G G1 : Ctx} {f3 : γ → δ} {f : D → D → Ma δ} {ma mb : ME} {t : Rt γ} (h : TG n G (m2 f ma mb) f3 t G1) : TG n G (mBind (aCons ma (aCons mb aNil)) (two f)) f3 t G1 := by
  intro e μ he
  have h := h e μ he
  have key : mBind (aCons ma (aCons mb aNil)) (two f) e μ = m2 f ma mb e μ := by
    simp only [m2, mBind, aCons, aNil]
    cases z : ma e μ with
    | ok a e1 μ1 =>
      simp only [Rs.bind, mBind]
      cases mb e1 μ1 <;> rfl
    | ex x e1 μ1 => rfl
    | bad => rfl
  rw [key]
  exact h
theorem tg_len {m : ME} {t : Rt (List α)} (h : TS n G m c t G1) : TE n G (mBind m fLen) cI (t.bind fun xs => .ok (xs.length : Int)) G1 := ts_un (fun xs d e μ hs => by
  have key : fLen d e μ = match seqE e μ d with
    | some xs => .ok (.int xs.length) e μ
    | none => .bad := by
    cases d with
    | str z => simp only [seqE, contE, Option.bind_none] at hs; cases hs
    | _ => rfl
  rw [key, hs]
  simp only [List.length_map]
  rfl) h
def lenS (z : Str) : Rt Int := match lineB z.length with
  | true => .ok z.length
  | false => .bad
theorem u_lenS : UnT cS cI.d fLen lenS := fun z => by
  unfold lenS
  cases h : lineB z.length with
  | false => trivial
  | true => exact fun e μ => by simp only [cS, fLen, h]; rfl
theorem tg_list {m : ME} {t : Rt (List α)} (h : TS n G m c t G1) : TG n G (mBind m fListO) (oL c) (t.bind fun xs => .ok xs) G1 := ts_un (fun xs d e μ hs => by
  unfold fListO
  rw [hs]
  rfl) h
theorem u_tupL : UnT (cL c) (cT c).d fTuple fun xs => .ok xs := fun xs e μ => rfl
theorem u_tupT : UnT (cT c) (cT c).d fTuple fun xs => .ok xs := fun xs e μ => rfl
theorem u_tupP {q : Cq α} : UnT (cPL q) (cP q).d fTuple fun xs => .ok xs := fun xs e μ => rfl
theorem te_tupOwn {i : Nat} {xs : List α} (h : look G i = some (.own (oL c xs))) : TE n G (mBind (mVar i) fTuple) (cT c) (.ok xs) G := tg_ok fun e μ he => by
  have hv : mVar i e μ = .ok (.loc i) e μ := by
    unfold mVar
    rw [he.look h]
  unfold mBind
  rw [hv]
  show fTuple (.loc i) e μ = _
  unfold fTuple
  simp only [seqE, contE, he.look h]
  rfl
/-! ### sums and so on of lists -/
theorem intsD_map : ∀ xs : List Int, intsD (xs.map cI.d) = some xs
  | [] => rfl
  | x :: xs => by
    rw [List.map_cons]
    show (match intsD (xs.map cI.d) with | some ns => some (x :: ns) | none => none) = _
    rw [intsD_map xs]
theorem blsD_map : ∀ xs : List Bool, blsD (xs.map cB.d) = some xs
  | [] => rfl
  | x :: xs => by
    rw [List.map_cons]
    show (match blsD (xs.map cB.d) with | some ns => some (x :: ns) | none => none) = _
    rw [blsD_map xs]
theorem u_sum : UnT (cL cI) cI.d fSum fun xs => .ok xs.sum := fun xs e μ => by
  unfold fSum
  show (match false, (some (xs.map cI.d)).bind intsD with | false, some ns => (.ok (.int ns.sum) e μ : Rs D) | _, _ => .bad) = _
  rw [Option.bind_some, intsD_map]
  rfl
def maxR : List Int → Rt Int
  | a :: r => .ok (maxI a r)
  | [] => .bad
def minR : List Int → Rt Int
  | a :: r => .ok (minI a r)
  | [] => .bad
theorem u_max : UnT (cL cI) cI.d fMax maxR := fun xs => by
  cases xs with
  | nil => trivial
  | cons a r =>
    intro e μ
    unfold fMax
    show (match false, (some ((a :: r).map cI.d)).bind intsD with | false, some (a :: r) => (.ok (.int (maxI a r)) e μ : Rs D) | _, _ => .bad) = _
    rw [Option.bind_some, intsD_map]
    rfl
theorem u_min : UnT (cL cI) cI.d fMin minR := fun xs => by
  cases xs with
  | nil => trivial
  | cons a r =>
    intro e μ
    unfold fMin
    show (match false, (some ((a :: r).map cI.d)).bind intsD with | false, some (a :: r) => (.ok (.int (minI a r)) e μ : Rs D) | _, _ => .bad) = _
    rw [Option.bind_some, intsD_map]
    rfl
theorem u_all : UnT (cL cB) cB.d fAll fun xs => .ok (xs.all id) := fun xs e μ => by
  unfold fAll
  show (match false, (some (xs.map cB.d)).bind blsD with | false, some bs => (.ok (.bl (bs.all id)) e μ : Rs D) | _, _ => .bad) = _
  rw [Option.bind_some, blsD_map]
  rfl
theorem u_any : UnT (cL cB) cB.d fAny fun xs => .ok (xs.any id) := fun xs e μ => by
  unfold fAny
  show (match false, (some (xs.map cB.d)).bind blsD with | false, some bs => (.ok (.bl (bs.any id)) e μ : Rs D) | _, _ => .bad) = _
  rw [Option.bind_some, blsD_map]
  rfl
/-! ### in -/
class CFlat {α : Type} [DecidableEq α] (c : Cd α) : Prop where
  fl : ∀ a, flatD (c.d a) = true
  eq : ∀ a b, eqF (c.d a) (c.d b) = decide (a = b)
instance : CFlat cI := ⟨fun _ => rfl, fun a b => by simp only [cI, eqF]; exact PySem.W.beq_decide a b⟩
instance : CFlat cS := ⟨fun _ => rfl, fun a b => by simp only [cS, eqF]; exact PySem.W.beq_decide a b⟩
theorem inF_map [DecidableEq α] [CFlat c] (a : α) : ∀ xs : List α, inF (c.d a) (xs.map c.d) = decide (a ∈ xs) ∧ (xs.map c.d).all flatD = true
  | [] => ⟨rfl, rfl⟩
  | x :: xs => by
    obtain ⟨h1, h2⟩ := inF_map a xs
    unfold inF at h1 ⊢
    simp only [List.map_cons, List.any_cons, List.all_cons, CFlat.eq, CFlat.fl, h1, h2, List.mem_cons, Bool.decide_or, Bool.and_self, and_true]
    rw [show decide (x = a) = decide (a = x) from decide_eq_decide.mpr eq_comm]
theorem te_in [DecidableEq α] [CFlat c] {neg : Bool} {m mb : ME} {t : Rt (List α)} {t2 : Rt α} (h2 : TE n G mb c t2 G1) (h : TS n G1 m c t G2) : TE n G (m2 (fIn neg) mb m) cB (t2.bind fun b => t.bind fun xs => .ok (negB neg (decide (b ∈ xs)))) G2 :=
  op_ts (fun b xs d e μ hs => by
    unfold fIn
    rw [hs]
    simp only [(inF_map b xs).1, (inF_map b xs).2, CFlat.fl, Bool.and_self]
    rfl) h2 h
/-! ### tests -/
theorem tt_test {m : ME} {t : Rt Bool} (h : TE n G m cB t G1) : TT n G (mTest m) t G1 := tg_same h fun _ _ _ _ => rfl
theorem te_ofB {m : Ma Bool} {t : Rt Bool} (h : TT n G m t G1) : TE n G (mOfB m) cB t G1 := tg_same h fun _ _ _ _ => rfl
theorem tg_if {δ : Type} {mc : Ma Bool} {ma mb : Ma δ} {f : α → δ} {tc : Rt Bool} {ta tb : Rt α} (h : TT n G mc tc G1) (ha : TG n G1 ma f ta G2) (hb : TG n G1 mb f tb G2) : TG n G (mIfB mc ma mb) f (tc.bind fun k => cond k ta tb) G2 :=
  tg_bind h fun k => by cases k; exact hb; exact ha
theorem tt_and {ma mb : Ma Bool} {ta tb : Rt Bool} (ha : TT n G ma ta G1) (hb : TT n G1 mb tb G1) : TT n G (mAnd ma mb) (ta.bind fun k => cond k tb (.ok false)) G1 := tg_if ha hb (tg_ok fun _ _ _ => rfl)
theorem tt_or {ma mb : Ma Bool} {ta tb : Rt Bool} (ha : TT n G ma ta G1) (hb : TT n G1 mb tb G1) : TT n G (mOr ma mb) (ta.bind fun k => cond k (.ok true) tb) G1 := tg_if ha (tg_ok fun _ _ _ => rfl) hb
theorem tt_not {ma : Ma Bool} {ta : Rt Bool} (ha : TT n G ma ta G1) : TT n G (mNot ma) (ta.bind fun k => .ok (!k)) G1 := tg_map ha fun _ _ _ _ => rfl
theorem te_and {ma mb : ME} {ta tb : Rt Bool} (ha : TE n G ma cB ta G1) (hb : TE n G1 mb cB tb G1) : TE n G (vAnd ma mb) cB (ta.bind fun k => cond k tb (.ok false)) G1 := tg_if (tt_test ha) hb (tg_ok fun _ _ _ => rfl)
theorem te_or {ma mb : ME} {ta tb : Rt Bool} (ha : TE n G ma cB ta G1) (hb : TE n G1 mb cB tb G1) : TE n G (vOr ma mb) cB (ta.bind fun k => cond k (.ok true) tb) G1 := tg_if (tt_test ha) (tg_ok fun _ _ _ => rfl) hb
theorem te_not {ma : ME} {ta : Rt Bool} (ha : TE n G ma cB ta G1) : TE n G (vNot ma) cB (ta.bind fun k => .ok (!k)) G1 := tg_map (tt_test ha) fun _ _ _ _ => rfl
theorem tg_opv {δ : Type} {c1 : Cd α} {c2 : Cd β} {f3 : γ → δ} {f : D → D → Ma δ} {op : α → β → Rt γ} (o : OpT c1 c2 f3 f op) (a : α) (b : β) : TG n G (f (c1.d a) (c2.d b)) f3 (op a b) G := by
  have o := o a b
  intro e μ he
  cases z : op a b with
  | ok r =>
    rw [z] at o
    exact ⟨e, o e μ, he⟩
  | ex x => rw [z] at o; exact o.elim
  | bad => trivial
theorem te_chain {c2 : Cd β} {c3 : Cd γ} {f g : D → D → ME} {op : α → β → Rt Bool} {op2 : β → γ → Rt Bool} {ma mb mc : ME} {ta : Rt α} {tb : Rt β} {tc : Rt γ} (o : OpT c c2 cB.d f op) (o2 : OpT c2 c3 cB.d g op2)
    (ha : TE n G ma c ta G1) (hb : TE n G1 mb c2 tb G2) (hc : TE n G2 mc c3 tc G2) : TE n G (mChain f g ma mb mc) cB (ta.bind fun a => tb.bind fun b => (op a b).bind fun k => cond k (tc.bind fun c => op2 b c) (.ok false)) G2 :=
  tg_bind ha fun a => tg_bind hb fun b => tg_bind (tg_opv o a b) fun k => by
    have hk : TT n G2 (toB (cB.d k)) (.ok k) G2 := tg_ok fun _ _ _ => rfl
    have hh := tg_bind (k := fun k' => match k' with
      | true => mBind mc fun w => g (c2.d b) w
      | false => fun e μ => .ok (.bl false) e μ) (g := cB.d) (u := fun k => cond k (tc.bind fun c => op2 b c) (.ok false)) (G2 := G2) hk fun k => by
        cases k with
        | false => exact tg_ok fun _ _ _ => rfl
        | true => exact tg_bind hc fun r => tg_opv o2 b r
    exact hh
/-- is None, is not None -/
theorem te_isO {m : ME} {neg : Bool} {t : Rt (Option α)} (hn : ∀ a, isNon (c.d a) = false) (h : TE n G m (cO c) t G1) : TE n G (mBind m (fIsNL neg)) cB (t.bind fun o => .ok (negB neg o.isNone)) G1 := tg_map h fun o e μ _ => by
  cases o with
  | none => cases neg <;> rfl
  | some a =>
    show fIsNL neg (c.d a) e μ = _
    simp only [fIsNL, c.pl, fIsN, hn]
    cases neg <;> rfl
theorem te_isA {m : ME} {neg : Bool} {t : Rt Pv} (h : TE n G m cA t G1) : TE n G (mBind m (fIsNL neg)) cB (t.bind fun o => .ok (negB neg (isNon o.1))) G1 := tg_map h fun o e μ _ => by
  show fIsNL neg o.1 e μ = _
  simp only [fIsNL, o.2, fIsN]
  cases neg <;> rfl
/-! ### displays -/
theorem te_tupP {q : Cq α} {ms : Ma (List D)} {t : Rt α} (h : TA n G ms q t G1) (hl : lineB q.n = true) : TE n G (mTup ms) (cP q) t G1 := tg_same h fun a e μ _ => by
  simp only [q.len, hl, q.pl, Bool.and_self]
  rfl
theorem tg_lstP {q : Cq α} {ms : Ma (List D)} {t : Rt α} (h : TA n G ms q t G1) (hl : lineB q.n = true) : TG n G (mLst ms) (oPL q) t G1 := tg_same h fun a e μ _ => by
  simp only [q.len, hl, q.pl, Bool.and_self]
  rfl
def lineR {α : Type} (xs : List α) : Rt (List α) := match lineB xs.length with
  | true => .ok xs
  | false => .bad
theorem tg_line {δ : Type} {m : Ma (List D)} {k : List D → Ma δ} {g : List α → δ} {t : Rt (List α)} (h : TG n G m (fH c) t G1) (h2 : ∀ xs, lineB xs.length = true → ∀ e μ, Hs n G1 e → k (xs.map c.d) e μ = .ok (g xs) e μ) : TG n G (mBind m k) g (t.bind lineR) G1 :=
  tg_bind h fun xs e μ he => by
    unfold lineR
    cases z : lineB xs.length with
    | true => exact ⟨e, h2 xs z e μ he, he⟩
    | false => trivial
theorem te_tupT {ms : Ma (List D)} {t : Rt (List α)} (h : TG n G ms (fH c) t G1) : TE n G (mTup ms) (cT c) (t.bind lineR) G1 := tg_line h fun xs hl e μ _ => by
  simp only [List.length_map, hl, plains_map, Bool.and_self]
  rfl
theorem tg_lstL {ms : Ma (List D)} {t : Rt (List α)} (h : TG n G ms (fH c) t G1) : TG n G (mLst ms) (oL c) (t.bind lineR) G1 := tg_line h fun xs hl e μ _ => by
  simp only [List.length_map, hl, plains_map, Bool.and_self]
  rfl
theorem te_valL {m : Ma O} {t : Rt (List α)} (h : TG n G m (oL c) t G1) : TE n G (mVal m) (cL c) t G1 := tg_same h fun _ _ _ _ => rfl
theorem te_valP {q : Cq α} {m : Ma O} {t : Rt α} (h : TG n G m (oPL q) t G1) : TE n G (mVal m) (cPL q) t G1 := tg_same h fun _ _ _ _ => rfl
theorem te_valM {c2 : Cd β} {m : Ma O} {t : Rt (List (α × β))} (h : TG n G m (oM c c2) t G1) : TE n G (mVal m) (cM c c2) t G1 := tg_same h fun _ _ _ _ => rfl
/-- *xs among alike ones -/
theorem th_star {m : ME} {ms : Ma (List D)} {t : Rt (List α)} {u : Rt (List α)} (h : TS n G m c t G1) (h2 : TG n G1 ms (fH c) u G1) : TG n G (aStar m ms) (fH c) (t.bind fun a => u.bind fun b => .ok (a ++ b)) G1 := by
  intro e μ he
  have h := h e μ he
  show RG n (fH c) G1 μ ((m e μ).bind fun d e μ => match seqE e μ d with
    | some xs => mBind ms (fun ds e μ => .ok (xs ++ ds) e μ) e μ
    | none => .bad) _
  cases t with
  | ok xs =>
    obtain ⟨d, e1, h3, h4, h5⟩ := h
    rw [h3, Rt.ok_bind]
    show RG n (fH c) G1 μ (match seqE e1 μ d with
      | some xs => mBind ms (fun ds e μ => .ok (xs ++ ds) e μ) e1 μ
      | none => .bad) _
    rw [h5 e1 μ h4]
    exact tg_map (k := fun ds e μ => .ok (xs.map c.d ++ ds) e μ) (g := fH c) (u := fun b => xs ++ b) h2 (fun b e μ _ => by
      show Rs.ok (xs.map c.d ++ b.map c.d) e μ = Rs.ok ((xs ++ b).map c.d) e μ
      rw [List.map_append]) e1 μ h4
  | ex x =>
    obtain ⟨e1, h3⟩ := h
    rw [h3]
    exact ⟨e1, rfl⟩
  | bad => trivial
/-! ### what is walked -/
theorem ti_T {m : ME} {t : Rt (List α)} (h : TE n G m (cT c) t G1) : TG n G (mBind m frzSeq) (fH c) t G1 := tg_same h fun _ _ _ _ => rfl
theorem ti_K {m : ME} {t : Rt (List α)} (h : TE n G m (cK c) t G1) : TG n G (mBind m frzSeq) (fH c) t G1 := tg_same h fun _ _ _ _ => rfl
theorem ti_L {m : ME} {t : Rt (List α)} (h : TE n G m (cL c) t G1) : TG n G (mBind m frzSeq) (fH c) t G1 := tg_same h fun _ _ _ _ => rfl
theorem ti_scr {m : ME} {t : Rt (List α)} (h : TE n G m (cScr c) t G1) : TG n G (mBind m frzSeq) (fH c) t G1 := tg_same h fun _ _ _ _ => rfl
def rng (lo : Int) (k : Nat) : List Int := (List.range k).map fun (i : Nat) => lo + (i : Int)
theorem rngD_map (lo : Int) (k : Nat) : rngD lo k = fH cI (rng lo k) := by
  unfold rngD rng fH
  rw [List.map_map]
  rfl
def rngR1 (j : Int) : Rt (List Int) := match szB j with
  | true => .ok (rng 0 j.toNat)
  | false => .bad
def rngR2 (i j : Int) : Rt (List Int) := match szB i && szB j with
  | true => .ok (rng i (j - i).toNat)
  | false => .bad
theorem u_rng1 : UnT cI (fH cI) fRng1 rngR1 := fun j => by
  unfold rngR1
  cases z : szB j with
  | true => exact fun e μ => by simp only [cI, fRng1, z]; rw [rngD_map]; rfl
  | false => trivial
theorem o_rng2 : OpT cI cI (fH cI) fRng2 rngR2 := fun i j => by
  unfold rngR2
  cases z : szB i && szB j with
  | true => exact fun e μ => by simp only [cI, fRng2, z]; rw [rngD_map]; rfl
  | false => trivial
def enumT : Nat → List α → List (Int × α)
  | _, [] => []
  | i, a :: r => ((i : Int), a) :: enumT (i + 1) r
theorem enumD_map : ∀ (xs : List α) (i : Nat), enumD i (xs.map c.d) = fH (cPK (qc cI (q1 c))) (enumT i xs)
  | [], _ => rfl
  | x :: xs, i => by
    rw [List.map_cons, enumD, enumD_map xs (i + 1)]
    rfl
theorem u_enumT : UnT (cT c) (fH (cPK (qc cI (q1 c)))) fEnumT fun xs => .ok (enumT 0 xs) := fun xs e μ => by
  show Rs.ok (enumD 0 (xs.map c.d)) e μ = _
  rw [enumD_map]
theorem u_enumL : UnT (cL c) (fH (cPK (qc cI (q1 c)))) fEnumL fun xs => .ok (enumT 0 xs) := fun xs e μ => by
  show Rs.ok (enumD 0 (xs.map c.d)) e μ = _
  rw [enumD_map]
theorem zipD_map {c2 : Cd β} : ∀ (xs : List α) (ys : List β), zipD (xs.map c.d) (ys.map c2.d) = fH (cPK (qc c (q1 c2))) (xs.zip ys)
  | [], _ => by simp [zipD, fH]
  | _ :: _, [] => by simp [zipD, fH]
  | x :: xs, y :: ys => by
    rw [List.map_cons, List.map_cons, zipD, zipD_map xs ys]
    rfl
theorem o_zip {c2 : Cd β} : OpT (cL c) (cL c2) (fH (cPK (qc c (q1 c2)))) fZip fun xs ys => .ok (xs.zip ys) := fun xs ys e μ => by
  show Rs.ok (zipD (xs.map c.d) (ys.map c2.d)) e μ = _
  rw [zipD_map]
theorem itemsD_map {c2 : Cd β} : ∀ kv : List (α × β), itemsD (kv.map fun p => c.d p.1) (kv.map fun p => c2.d p.2) = fH (cPK (qc c (q1 c2))) kv
  | [] => rfl
  | p :: kv => by
    rw [List.map_cons, List.map_cons, itemsD, itemsD_map kv]
    rfl
theorem u_items {c2 : Cd β} : UnT (cM c c2) (fH (cPK (qc c (q1 c2)))) fItems fun kv => .ok kv := fun kv e μ => by
  show Rs.ok (itemsD _ _) e μ = _
  rw [itemsD_map]
end
end Ty

set_option maxRecDepth 100000
set_option maxHeartbeats 4000000
/-! Ty3: targets, comprehensions, statements, loops, functions, calls over Lean types. -/
namespace Ty
open PySem PySem.Spec PyProof.Rows L2 Ev

/-! ### targets -/
def TGt (n : Nat) (G : Ctx) (g : Tg) (d : D) (G' : Ctx) : Prop := ∀ e μ, Hs n G e → ∃ e', g d e μ = .ok () e' μ ∧ Hs n G' e'
def TGts (n : Nat) (G : Ctx) (g : Tgs) (d : List D) (G' : Ctx) : Prop := ∀ e μ, Hs n G e → ∃ e', g d e μ = .ok () e' μ ∧ Hs n G' e'
section
variable {α β γ δ : Type} {n : Nat} {G G1 G2 G3 : Ctx} {c : Cd α}
theorem gt_set {i : Nat} {a : α} (hi : Nat.blt i n = true) : TGt n G (gSet i) (c.d a) (put G i (.val (c.d a))) := fun e μ he => by
  refine ⟨e.set i (.val (c.d a)), ?_, he.put hi⟩
  unfold gSet
  rw [c.pl]
theorem gts_nil : TGts n G gNone [] G := fun e μ he => ⟨e, rfl, he⟩
theorem gts_cons {g : Tg} {gs : Tgs} {d : D} {ds : List D} (h : TGt n G g d G1) (h2 : TGts n G1 gs ds G2) : TGts n G (gMore g gs) (d :: ds) G2 := fun e μ he => by
  obtain ⟨e1, h3, h4⟩ := h e μ he
  obtain ⟨e2, h5, h6⟩ := h2 e1 μ h4
  refine ⟨e2, ?_, h6⟩
  show (g d e μ).bind _ = _
  rw [h3]
  exact h5
theorem gt_P {q : Cq α} {k : Nat} {gs : Tgs} {a : α} (h : TGts n G gs (q.d a) G1) (hk : q.n = k := by rfl) : TGt n G (gTupl k gs) ((cP q).d a) G1 := fun e μ he => by
  obtain ⟨e1, h3, h4⟩ := h e μ he
  refine ⟨e1, ?_, h4⟩
  show (match Nat.beq (q.d a).length k with | true => gs (q.d a) e μ | false => .bad) = _
  rw [q.len, hk, Nat.beq_refl]
  exact h3
theorem gt_PK {q : Cq α} {k : Nat} {gs : Tgs} {a : α} (h : TGts n G gs (q.d a) G1) (hk : q.n = k := by rfl) : TGt n G (gTupl k gs) ((cPK q).d a) G1 := fun e μ he => by
  obtain ⟨e1, h3, h4⟩ := h e μ he
  refine ⟨e1, ?_, h4⟩
  show (match Nat.beq (q.d a).length k with | true => gs (q.d a) e μ | false => .bad) = _
  rw [q.len, hk, Nat.beq_refl]
  exact h3
/-- a block's targets: slots of vs alone -/
structure TGc (n : Nat) (vs : List Nat) (G : Ctx) (g : Tg) (d : D) (G' : Ctx) : Prop where
  run : TGt n G g d G'
  out : Ent G' (dels G vs)
structure TGcs (n : Nat) (vs : List Nat) (G : Ctx) (g : Tgs) (d : List D) (G' : Ctx) : Prop where
  run : TGts n G g d G'
  out : Ent G' (dels G vs)
def memB (i : Nat) : List Nat → Bool
  | [] => false
  | v :: vs => Nat.beq v i || memB i vs
theorem memB_ok {i : Nat} : ∀ {vs : List Nat}, memB i vs = true → i ∈ vs
  | [], h => by cases h
  | v :: vs, h => by
    rw [memB] at h
    rcases Bool.or_eq_true_iff.mp h with h | h
    · rw [Nat.eq_of_beq_eq_true h]
      exact List.mem_cons_self
    · exact List.mem_cons_of_mem _ (memB_ok h)
theorem ent_dels_put {G : Ctx} {vs : List Nat} {i : Nat} {l : LV} (h : i ∈ vs) : Ent (put G i l) (dels G vs) := fun p hp => by
  obtain ⟨h1, h2⟩ := mem_dels.mp hp
  exact List.mem_cons_of_mem _ (mem_del.mpr ⟨h1, fun z => h2 (z ▸ h)⟩)
theorem Ent.dels {G G' : Ctx} {vs : List Nat} (h : Ent G G') : Ent (dels G vs) (dels G' vs) := fun p hp => by
  obtain ⟨h1, h2⟩ := mem_dels.mp hp
  exact mem_dels.mpr ⟨h p h1, h2⟩
theorem ent_dels {G : Ctx} {vs : List Nat} : Ent G (dels G vs) := fun p hp => (mem_dels.mp hp).1
theorem ent_dels2 {G : Ctx} {vs : List Nat} : Ent (dels (dels G vs) vs) (dels G vs) := fun p hp => mem_dels.mpr ⟨hp, (mem_dels.mp hp).2⟩
theorem gc_set {vs : List Nat} {i : Nat} {a : α} (hi : Nat.blt i n = true) (hv : memB i vs = true) : TGc n vs G (gSet i) (c.d a) (put G i (.val (c.d a))) := ⟨gt_set hi, ent_dels_put (memB_ok hv)⟩
theorem gcs_nil {vs : List Nat} : TGcs n vs G gNone [] G := ⟨gts_nil, ent_dels⟩
theorem gcs_cons {vs : List Nat} {g : Tg} {gs : Tgs} {d : D} {ds : List D} (h : TGc n vs G g d G1) (h2 : TGcs n vs G1 gs ds G2) : TGcs n vs G (gMore g gs) (d :: ds) G2 :=
  ⟨gts_cons h.run h2.run, fun p hp => h2.out p (mem_dels.mpr ⟨h.out p hp, (mem_dels.mp hp).2⟩)⟩
theorem gc_P {vs : List Nat} {q : Cq α} {k : Nat} {gs : Tgs} {a : α} (h : TGcs n vs G gs (q.d a) G1) (hk : q.n = k := by rfl) : TGc n vs G (gTupl k gs) ((cP q).d a) G1 := ⟨gt_P h.run hk, h.out⟩
theorem gc_PK {vs : List Nat} {q : Cq α} {k : Nat} {gs : Tgs} {a : α} (h : TGcs n vs G gs (q.d a) G1) (hk : q.n = k := by rfl) : TGc n vs G (gTupl k gs) ((cPK q).d a) G1 := ⟨gt_PK h.run hk, h.out⟩

/-! ### comprehensions -/
/-- [F x for x in xs if T x]; what raises within is not followed -/
def lcT : List α → (α → Rt Bool) → (α → Rt β) → Rt (List β)
  | [], _, _ => .ok []
  | x :: r, T, F => match T x with
    | .ok true => (match F x with
      | .ok y => (match lcT r T F with
        | .ok ys => .ok (y :: ys)
        | _ => .bad)
      | _ => .bad)
    | .ok false => lcT r T F
    | _ => .bad
def lcT2 : List α → (α → Rt Bool) → (α → Rt (List β)) → (α → β → Rt Bool) → (α → β → Rt γ) → Rt (List γ)
  | [], _, _, _, _ => .ok []
  | x :: r, T, I, T1, F => match T x with
    | .ok true => (match I x with
      | .ok es => (match lcT es (T1 x) (F x) with
        | .ok ys => (match lcT2 r T I T1 F with
          | .ok zs => .ok (ys ++ zs)
          | _ => .bad)
        | _ => .bad)
      | _ => .bad)
    | .ok false => lcT2 r T I T1 F
    | _ => .bad
def isV : LV → Bool
  | .val _ => true
  | _ => false
def okR : Ctx → List Nat → Bool
  | [], _ => true
  | (i, l) :: r, vs => (isV l || !memB i vs) && okR r vs
theorem wipe_len (e : En) : ∀ vs : List Nat, (wipeE e vs).length = e.length
  | [] => rfl
  | v :: vs => by unfold wipeE; rw [List.length_set, wipe_len e vs]
theorem rest_len (e0 e : En) : ∀ vs : List Nat, (restE e0 e vs).length = e.length
  | [] => rfl
  | v :: vs => by unfold restE; rw [List.length_set, rest_len e0 e vs]
theorem wipeE_out {e : En} {i : Nat} : ∀ {vs : List Nat}, i ∉ vs → (wipeE e vs)[i]? = e[i]?
  | [], _ => rfl
  | v :: vs, h => by
    rw [wipeE, List.getElem?_set_ne (fun z : v = i => h (z ▸ List.mem_cons_self))]
    exact wipeE_out fun z => h (List.mem_cons_of_mem _ z)
theorem restE_out {e0 e : En} {i : Nat} : ∀ {vs : List Nat}, i ∉ vs → (restE e0 e vs)[i]? = e[i]?
  | [], _ => rfl
  | v :: vs, h => by
    rw [restE, List.getElem?_set_ne (fun z : v = i => h (z ▸ List.mem_cons_self))]
    exact restE_out fun z => h (List.mem_cons_of_mem _ z)
theorem restE_in {e0 e : En} {i : Nat} {d : D} (hl : i < e.length) (h : e0[i]? = some (.val d)) : ∀ {vs : List Nat}, i ∈ vs → (restE e0 e vs)[i]? = some (.val d)
  | [], z => by cases z
  | v :: vs, z => by
    rw [restE]
    by_cases q : v = i
    · subst q
      rw [List.getElem?_set_self (by rw [rest_len]; exact hl), h]
    · rw [List.getElem?_set_ne q]
      exact restE_in hl h ((List.mem_cons.mp z).resolve_left fun w => q w.symm)
theorem Hs.wipe {e : En} {vs : List Nat} (h : Hs n G e) : Hs n (dels G vs) (wipeE e vs) := ⟨by rw [wipe_len]; exact h.len, fun p hp => by
  obtain ⟨h1, h2⟩ := mem_dels.mp hp
  rw [wipeE_out h2]
  exact h.has p h1⟩
theorem okR_mem : ∀ {G : Ctx} {vs : List Nat}, okR G vs = true → ∀ p ∈ G, p.1 ∈ vs → ∃ d, p.2 = .val d
  | [], _, _, p, hp, _ => by cases hp
  | (i, l) :: r, vs, h, p, hp, hv => by
    obtain ⟨h1, h2⟩ := Bool.and_eq_true_iff.mp (show ((isV l || !memB i vs) && okR r vs) = true from h)
    rcases List.mem_cons.mp hp with rfl | hp
    · have memT : ∀ {i : Nat} {vs : List Nat}, i ∈ vs → memB i vs = true := by
        intro i vs
        induction vs with
        | nil => intro z; cases z
        | cons v vs ih =>
          intro z
          rw [memB]
          rcases List.mem_cons.mp z with rfl | z
          · rw [Nat.beq_refl]; rfl
          · rw [ih z, Bool.or_true]
      rw [memT hv] at h1
      cases l with
      | val d => exact ⟨d, rfl⟩
      | no => cases h1
      | own o => cases h1
    · exact okR_mem h2 p hp hv
theorem Hs.rest {e1 e2 : En} {vs : List Nat} (h : Hs n G e1) (hk : okR G vs = true) (h2 : Hs n (dels G vs) e2) : Hs n G (restE e1 e2 vs) := ⟨by rw [rest_len]; exact h2.len, fun p hp => by
  by_cases hv : p.1 ∈ vs
  · obtain ⟨d, hd⟩ := okR_mem hk p hp hv
    have := h.has p hp
    rw [hd] at this ⊢
    exact restE_in (by rw [h2.len, ← h.len]; exact (List.getElem?_eq_some_iff.mp this).1) this hv
  · rw [restE_out hv]
    exact h2.has p (mem_dels.mpr ⟨hp, hv⟩)⟩
theorem lcL_ok {c2 : Cd β} {vs : List Nat} {g : Tg} {t : Ma Bool} {m : ME} {T : α → Rt Bool} {F : α → Rt β} {Gx : α → Ctx} {G0 : Ctx} (hg : ∀ x, TGc n vs (dels G0 vs) g (c.d x) (Gx x)) (ht : ∀ x, TT n (Gx x) t (T x) (Gx x)) (hm : ∀ x, TE n (Gx x) m c2 (F x) (Gx x)) :
    ∀ (xs : List α) (e : En) (μ : Mu), Hs n (dels G0 vs) e → match lcT xs T F with
      | .ok ys => ∃ e', lcL vs g t m (xs.map c.d) e μ = .ok (ys.map c2.d) e' μ ∧ Hs n (dels G0 vs) e'
      | .ex _ => False
      | .bad => True
  | [], e, μ, he => ⟨e, rfl, he⟩
  | x :: r, e, μ, he => by
    obtain ⟨e1, a1, a2⟩ := (hg x).run e μ he
    have b := ht x e1 μ a2
    have bk : ∀ e', Hs n (Gx x) e' → Hs n (dels G0 vs) (wipeE e' vs) := fun e' h => ((h.ent ((hg x).out)).wipe (vs := vs)).ent (Ent.trans ent_dels2 ent_dels2)
    unfold lcT
    cases hT : T x with
    | bad => trivial
    | ex z => trivial
    | ok k =>
      rw [hT] at b
      obtain ⟨e2, b1, b2⟩ := b
      cases k with
      | false =>
        have ih := lcL_ok hg ht hm r (wipeE e2 vs) μ (bk e2 b2)
        simp only [List.map_cons, lcL, a1, b1]
        exact ih
      | true =>
        have d := hm x e2 μ b2
        cases hF : F x with
        | bad => trivial
        | ex z => trivial
        | ok y =>
          rw [hF] at d
          obtain ⟨e3, d1, d2⟩ := d
          have ih := lcL_ok hg ht hm r (wipeE e3 vs) μ (bk e3 d2)
          cases hr : lcT r T F with
          | bad => trivial
          | ex z => trivial
          | ok ys =>
            rw [hr] at ih
            obtain ⟨e4, i1, i2⟩ := ih
            refine ⟨e4, ?_, i2⟩
            simp only [List.map_cons, lcL, a1, b1, d1, c2.pl, i1]
theorem lineR_ok {δ : Type} {xs : List α} {e : En} {μ : Mu} {vs : List Nat} {e0 : En} (hk : okR G vs = true) (h0 : Hs n G e0) (he : Hs n (dels G vs) e) : RG n (oL c) G μ (lcEnd e0 vs (.ok (xs.map c.d) e μ)) (lineR xs) := by
  unfold lineR lcEnd
  cases z : lineB xs.length with
  | true => exact ⟨restE e0 e vs, by simp only [List.length_map, z]; rfl, h0.rest hk he⟩
  | false => trivial
theorem tg_lc {mi : Ma (List D)} {c2 : Cd β} {vs : List Nat} {g : Tg} {t : Ma Bool} {m : ME} {ti : Rt (List α)} {T : α → Rt Bool} {F : α → Rt β} {Gx : α → Ctx} (hi : TG n G mi (fH c) ti G1) (hk : okR G1 vs = true)
    (hg : ∀ x, TGc n vs (dels G1 vs) g (c.d x) (Gx x)) (ht : ∀ x, TT n (Gx x) t (T x) (Gx x)) (hm : ∀ x, TE n (Gx x) m c2 (F x) (Gx x)) : TG n G (mLc mi vs g t m) (oL c2) (ti.bind fun xs => (lcT xs T F).bind lineR) G1 :=
  tg_bind hi fun xs e μ he => by
    have h := lcL_ok (G0 := G1) hg ht hm xs (wipeE e vs) μ he.wipe
    cases z : lcT xs T F with
    | ok ys =>
      rw [z] at h
      obtain ⟨e', h1, h2⟩ := h
      show RG n (oL c2) G1 μ (lcEnd e vs (lcL vs g t m (xs.map c.d) (wipeE e vs) μ)) (lineR ys)
      rw [h1]
      exact lineR_ok (δ := Unit) hk he h2
    | ex x =>
      rw [z] at h
      exact h.elim
    | bad => trivial
/-- no test -/
def yesR {α : Type} : α → Rt Bool := fun _ => .ok true
theorem tt_yes : TT n G mYes (.ok true) G := tg_ok fun _ _ _ => rfl
theorem lcO_ok {c2 : Cd β} {c3 : Cd γ} {vs vs1 : List Nat} {g : Tg} {t : Ma Bool} {mi1 : Ma (List D)} {g1 : Tg} {t1 : Ma Bool} {m : ME} {T : α → Rt Bool} {I : α → Rt (List β)} {T1 : α → β → Rt Bool} {F : α → β → Rt γ} {Gx : α → Ctx} {Gy : α → β → Ctx} {G0 : Ctx}
    (hg : ∀ x, TGc n vs (dels G0 vs) g (c.d x) (Gx x)) (ht : ∀ x, TT n (Gx x) t (T x) (Gx x)) (hi1 : ∀ x, TG n (Gx x) mi1 (fH c2) (I x) (Gx x)) (hg1 : ∀ x y, TGc n vs1 (dels (Gx x) vs1) g1 (c2.d y) (Gy x y)) (ht1 : ∀ x y, TT n (Gy x y) t1 (T1 x y) (Gy x y)) (hm : ∀ x y, TE n (Gy x y) m c3 (F x y) (Gy x y))
    (hv : ∀ i, i ∈ vs1 → i ∈ vs) :
    ∀ (xs : List α) (e : En) (μ : Mu), Hs n (dels G0 vs) e → match lcT2 xs T I T1 F with
      | .ok ys => ∃ e', lcO vs vs1 g t mi1 g1 t1 m (xs.map c.d) e μ = .ok (ys.map c3.d) e' μ ∧ Hs n (dels G0 vs) e'
      | .ex _ => False
      | .bad => True
  | [], e, μ, he => ⟨e, rfl, he⟩
  | x :: r, e, μ, he => by
    obtain ⟨e1, a1, a2⟩ := (hg x).run e μ he
    have b := ht x e1 μ a2
    have bk : ∀ e', Hs n (dels G0 vs) e' → Hs n (dels G0 vs) (wipeE e' vs) := fun e' h => (h.wipe (vs := vs)).ent ent_dels2
    have o1 : Ent (Gx x) (dels G0 vs) := Ent.trans (hg x).out ent_dels2
    have o2 : Ent (dels (Gx x) vs1) (dels G0 vs) := fun p hp => by
      obtain ⟨h1, h2⟩ := mem_dels.mp hp
      exact mem_dels.mpr ⟨o1 p hp, fun z => h2 (hv _ z)⟩
    unfold lcT2
    cases hT : T x with
    | bad => trivial
    | ex z => trivial
    | ok k =>
      rw [hT] at b
      obtain ⟨e2, b1, b2⟩ := b
      cases k with
      | false =>
        have ih := lcO_ok hg ht hi1 hg1 ht1 hm hv r (wipeE e2 vs) μ (bk e2 (b2.ent o1))
        simp only [List.map_cons, lcO, a1, b1]
        exact ih
      | true =>
        have d := hi1 x e2 μ b2
        cases hI : I x with
        | bad => trivial
        | ex z => trivial
        | ok es =>
          rw [hI] at d
          obtain ⟨e3, d1, d2⟩ := d
          have f := lcL_ok (G0 := Gx x) (hg1 x) (ht1 x) (hm x) es (wipeE e3 vs1) μ d2.wipe
          cases hF : lcT es (T1 x) (F x) with
          | bad => simp only [hF]
          | ex z => simp only [hF]
          | ok ys =>
            rw [hF] at f
            obtain ⟨e4, f1, f2⟩ := f
            have ih := lcO_ok hg ht hi1 hg1 ht1 hm hv r (wipeE e4 vs) μ (bk e4 (f2.ent o2))
            cases hr : lcT2 r T I T1 F with
            | bad => simp only [hF, hr]
            | ex z => simp only [hF, hr]
            | ok zs =>
              rw [hr] at ih
              obtain ⟨e5, i1, i2⟩ := ih
              simp only [hF, hr]
              refine ⟨e5, ?_, i2⟩
              simp only [List.map_cons, lcO, a1, b1, d1, fH, f1, i1, List.map_append]
theorem tg_lc2 {mi : Ma (List D)} {c2 : Cd β} {c3 : Cd γ} {vs vs1 : List Nat} {g : Tg} {t : Ma Bool} {mi1 : Ma (List D)} {g1 : Tg} {t1 : Ma Bool} {m : ME} {ti : Rt (List α)} {T : α → Rt Bool} {I : α → Rt (List β)} {T1 : α → β → Rt Bool} {F : α → β → Rt γ} {Gx : α → Ctx} {Gy : α → β → Ctx} (hi : TG n G mi (fH c) ti G1) (hk : okR G1 vs = true)
    (hg : ∀ x, TGc n vs (dels G1 vs) g (c.d x) (Gx x)) (ht : ∀ x, TT n (Gx x) t (T x) (Gx x)) (hi1 : ∀ x, TG n (Gx x) mi1 (fH c2) (I x) (Gx x)) (hg1 : ∀ x y, TGc n vs1 (dels (Gx x) vs1) g1 (c2.d y) (Gy x y)) (ht1 : ∀ x y, TT n (Gy x y) t1 (T1 x y) (Gy x y)) (hm : ∀ x y, TE n (Gy x y) m c3 (F x y) (Gy x y))
    (hv : vs1.all (memB · vs) = true) : TG n G (mLc2 mi vs vs1 g t mi1 g1 t1 m) (oL c3) (ti.bind fun xs => (lcT2 xs T I T1 F).bind lineR) G1 :=
  tg_bind hi fun xs e μ he => by
    have h := lcO_ok (G0 := G1) hg ht hi1 hg1 ht1 hm (fun i z => memB_ok (List.all_eq_true.mp hv i z)) xs (wipeE e vs) μ he.wipe
    cases z : lcT2 xs T I T1 F with
    | ok ys =>
      rw [z] at h
      obtain ⟨e', h1, h2⟩ := h
      show RG n (oL c3) G1 μ (lcEnd e vs (lcO vs vs1 g t mi1 g1 t1 m (xs.map c.d) (wipeE e vs) μ)) (lineR ys)
      rw [h1]
      exact lineR_ok (δ := Unit) hk he h2
    | ex x =>
      rw [z] at h
      exact h.elim
    | bad => trivial
end
end Ty

set_option maxRecDepth 100000
set_option maxHeartbeats 4000000
/-! Ty4: statements, loops, functions, calls over Lean types. -/
namespace Ty
open PySem PySem.Spec PyProof.Rows L2 Ev

inductive Ou (σ ρ : Type) where
  | nx (s : σ) | rt (r : ρ)
def RN {σ : Type} (n : Nat) (μ : Mu) (r : Rst) (t : Rt σ) (G' : σ → Ctx) : Prop := match t with
  | .ok s => ∃ e', r = .nx e' μ ∧ Hs n (G' s) e'
  | .ex x => ∃ e', r = .ex x e' μ
  | .bad => True
def RB {ρ : Type} (μ : Mu) (r : Rst) (c : Cd ρ) (t : Rt ρ) : Prop := match t with
  | .ok v => ∃ e', r = .rt (c.d v) e' μ
  | .ex x => ∃ e', r = .ex x e' μ
  | .bad => True
def RO {σ ρ : Type} (n : Nat) (μ : Mu) (r : Rst) (c : Cd ρ) (t : Rt (Ou σ ρ)) (G' : σ → Ctx) : Prop := match t with
  | .ok (.nx s) => ∃ e', r = .nx e' μ ∧ Hs n (G' s) e'
  | .ok (.rt v) => ∃ e', r = .rt (c.d v) e' μ
  | .ex x => ∃ e', r = .ex x e' μ
  | .bad => True
/-- a block that goes on; s: what its slots hold -/
def TN {σ : Type} (n : Nat) (G : Ctx) (b : MS) (t : Rt σ) (G' : σ → Ctx) : Prop := ∀ e μ, Hs n G e → RN n μ (b e μ) t G'
/-- a block that returns -/
def TB {ρ : Type} (n : Nat) (G : Ctx) (b : MS) (c : Cd ρ) (t : Rt ρ) : Prop := ∀ e μ, Hs n G e → RB μ (b e μ) c t
/-- a block that goes on or returns -/
def TO {σ ρ : Type} (n : Nat) (G : Ctx) (b : MS) (c : Cd ρ) (t : Rt (Ou σ ρ)) (G' : σ → Ctx) : Prop := ∀ e μ, Hs n G e → RO n μ (b e μ) c t G'
def RF {ρ : Type} (μ : Mu) (r : Rc) (c : Cd ρ) (t : Rt ρ) : Prop := match t with
  | .ok v => r = .ok (c.d v) μ
  | .ex x => r = .ex x μ
  | .bad => True
section
variable {α β γ δ σ τ ρ : Type} {n : Nat} {G G1 G2 G3 : Ctx} {c : Cd α} {cr : Cd ρ}
theorem tn_skip : TN n G sSkip (.ok ()) fun _ => G := fun e μ he => ⟨e, rfl, he⟩
theorem tn_exp {m : Ma β} {k : β → MS} {f : α → β} {t : Rt α} {u : α → Rt σ} {Gs : σ → Ctx} (h : TG n G m f t G1) (h2 : ∀ a, TN n G1 (k (f a)) (u a) Gs) : TN n G (sExp m k) (t.bind u) Gs := by
  intro e μ he
  have h := h e μ he
  unfold sExp
  cases t with
  | ok a =>
    obtain ⟨e1, h3, h4⟩ := h
    rw [h3]
    exact h2 a e1 μ h4
  | ex x =>
    obtain ⟨e1, h3⟩ := h
    rw [h3]
    exact ⟨e1, rfl⟩
  | bad => trivial
theorem tb_exp {m : Ma β} {k : β → MS} {f : α → β} {t : Rt α} {u : α → Rt ρ} (h : TG n G m f t G1) (h2 : ∀ a, TB n G1 (k (f a)) cr (u a)) : TB n G (sExp m k) cr (t.bind u) := by
  intro e μ he
  have h := h e μ he
  unfold sExp
  cases t with
  | ok a =>
    obtain ⟨e1, h3, h4⟩ := h
    rw [h3]
    exact h2 a e1 μ h4
  | ex x =>
    obtain ⟨e1, h3⟩ := h
    rw [h3]
    exact ⟨e1, rfl⟩
  | bad => trivial
theorem to_exp {m : Ma β} {k : β → MS} {f : α → β} {t : Rt α} {u : α → Rt (Ou σ ρ)} {Gs : σ → Ctx} (h : TG n G m f t G1) (h2 : ∀ a, TO n G1 (k (f a)) cr (u a) Gs) : TO n G (sExp m k) cr (t.bind u) Gs := by
  intro e μ he
  have h := h e μ he
  unfold sExp
  cases t with
  | ok a =>
    obtain ⟨e1, h3, h4⟩ := h
    rw [h3]
    exact h2 a e1 μ h4
  | ex x =>
    obtain ⟨e1, h3⟩ := h
    rw [h3]
    exact ⟨e1, rfl⟩
  | bad => trivial
theorem tn_same {m : Ma β} {k : β → MS} {f : α → β} {t : Rt α} {Gs : α → Ctx} (h : TG n G m f t G1) (h2 : ∀ a, TN n G1 (k (f a)) (.ok a) Gs) : TN n G (sExp m k) t Gs := by
  have := tn_exp h h2
  rwa [Rt.bind_ok] at this
theorem tn_set {m : ME} {i : Nat} {t : Rt α} (h : TE n G m c t G1) (hi : Nat.blt i n = true) : TN n G (sSet i m) t fun a => put G1 i (.val (c.d a)) := tn_same h fun a e μ he => by
  refine ⟨e.set i (.val (c.d a)), ?_, he.put hi⟩
  simp only [c.pl]
theorem tn_own {m : Ma O} {f : α → O} {i : Nat} {t : Rt α} (h : TG n G m f t G1) (hi : Nat.blt i n = true) : TN n G (sOwn i m) t fun a => put G1 i (.own (f a)) := tn_same h fun a e μ he =>
  ⟨e.set i (.own (f a)), rfl, he.put hi⟩
theorem tn_do {m : ME} {t : Rt α} (h : TE n G m c t G1) : TN n G (sDo m) (t.bind fun _ => .ok ()) fun _ => G1 := tn_exp h fun a e μ he => ⟨e, rfl, he⟩
theorem tn_asg {m : ME} {g : Tg} {t : Rt α} {Gs : α → Ctx} (h : TE n G m c t G1) (hg : ∀ a, TGt n G1 g (c.d a) (Gs a)) : TN n G (sAsg m g) t Gs := tn_same h fun a e μ he => by
  obtain ⟨e1, h1, h2⟩ := hg a e μ he
  refine ⟨e1, ?_, h2⟩
  simp only [h1]
theorem tn_seq {a b : MS} {t : Rt σ} {u : σ → Rt τ} {Gs : σ → Ctx} {Gt : τ → Ctx} (h : TN n G a t Gs) (h2 : ∀ s, TN n (Gs s) b (u s) Gt) : TN n G (sSeq a b) (t.bind u) Gt := by
  intro e μ he
  have h := h e μ he
  unfold sSeq
  cases t with
  | ok s =>
    obtain ⟨e1, h3, h4⟩ := h
    rw [h3]
    exact h2 s e1 μ h4
  | ex x =>
    obtain ⟨e1, h3⟩ := h
    rw [h3]
    exact ⟨e1, rfl⟩
  | bad => trivial
theorem tb_seq {a b : MS} {t : Rt σ} {u : σ → Rt ρ} {Gs : σ → Ctx} (h : TN n G a t Gs) (h2 : ∀ s, TB n (Gs s) b cr (u s)) : TB n G (sSeq a b) cr (t.bind u) := by
  intro e μ he
  have h := h e μ he
  unfold sSeq
  cases t with
  | ok s =>
    obtain ⟨e1, h3, h4⟩ := h
    rw [h3]
    exact h2 s e1 μ h4
  | ex x =>
    obtain ⟨e1, h3⟩ := h
    rw [h3]
    exact ⟨e1, rfl⟩
  | bad => trivial
theorem to_seq {a b : MS} {t : Rt σ} {u : σ → Rt (Ou τ ρ)} {Gs : σ → Ctx} {Gt : τ → Ctx} (h : TN n G a t Gs) (h2 : ∀ s, TO n (Gs s) b cr (u s) Gt) : TO n G (sSeq a b) cr (t.bind u) Gt := by
  intro e μ he
  have h := h e μ he
  unfold sSeq
  cases t with
  | ok s =>
    obtain ⟨e1, h3, h4⟩ := h
    rw [h3]
    exact h2 s e1 μ h4
  | ex x =>
    obtain ⟨e1, h3⟩ := h
    rw [h3]
    exact ⟨e1, rfl⟩
  | bad => trivial
/-- the slots told otherwise -/
theorem tn_to {a : MS} {t : Rt σ} {Gs : σ → Ctx} {Gt : τ → Ctx} (f : σ → τ) (h : TN n G a t Gs) (k : ∀ s, Looks (Gs s) (Gt (f s))) : TN n G a (t.bind fun s => .ok (f s)) Gt := by
  intro e μ he
  have h := h e μ he
  cases t with
  | ok s =>
    obtain ⟨e1, h3, h4⟩ := h
    exact ⟨e1, h3, h4.ent (k s).ent⟩
  | ex x => exact h
  | bad => trivial
theorem tn_pre {a : MS} {t : Rt σ} {Gs : σ → Ctx} (k : Looks G G1) (h : TN n G1 a t Gs) : TN n G a t Gs := fun e μ he => h e μ (he.ent k.ent)
theorem to_n {a : MS} {t : Rt σ} {Gs : σ → Ctx} (h : TN n G a t Gs) : TO n G a cr (t.bind fun s => .ok (.nx s)) Gs := by
  intro e μ he
  have h := h e μ he
  cases t with
  | ok s => exact h
  | ex x => exact h
  | bad => trivial
theorem to_b {a : MS} {t : Rt ρ} {Gs : σ → Ctx} (h : TB n G a cr t) : TO n G a cr (t.bind fun s => .ok (.rt s)) Gs := by
  intro e μ he
  have h := h e μ he
  cases t with
  | ok s => exact h
  | ex x => exact h
  | bad => trivial
def ouR {σ ρ τ : Type} (r : Ou σ ρ) (u : σ → Rt (Ou τ ρ)) : Rt (Ou τ ρ) := match r with
  | .nx s => u s
  | .rt r => .ok (.rt r)
def ouB {σ ρ : Type} (r : Ou σ ρ) (u : σ → Rt ρ) : Rt ρ := match r with
  | .nx s => u s
  | .rt r => .ok r
theorem to_oseq {a b : MS} {t : Rt (Ou σ ρ)} {u : σ → Rt (Ou τ ρ)} {Gs : σ → Ctx} {Gt : τ → Ctx} (h : TO n G a cr t Gs) (h2 : ∀ s, TO n (Gs s) b cr (u s) Gt) : TO n G (sSeq a b) cr (t.bind fun r => ouR r u) Gt := by
  intro e μ he
  have h := h e μ he
  unfold sSeq
  cases t with
  | ok s =>
    cases s with
    | nx s =>
      obtain ⟨e1, h3, h4⟩ := h
      rw [h3]
      exact h2 s e1 μ h4
    | rt r =>
      obtain ⟨e1, h3⟩ := h
      rw [h3]
      exact ⟨e1, rfl⟩
  | ex x =>
    obtain ⟨e1, h3⟩ := h
    rw [h3]
    exact ⟨e1, rfl⟩
  | bad => trivial
/-- .. and returns in the end -/
theorem tb_oseq {a b : MS} {t : Rt (Ou σ ρ)} {u : σ → Rt ρ} {Gs : σ → Ctx} (h : TO n G a cr t Gs) (h2 : ∀ s, TB n (Gs s) b cr (u s)) : TB n G (sSeq a b) cr (t.bind fun r => ouB r u) := by
  intro e μ he
  have h := h e μ he
  unfold sSeq
  cases t with
  | ok s =>
    cases s with
    | nx s =>
      obtain ⟨e1, h3, h4⟩ := h
      rw [h3]
      exact h2 s e1 μ h4
    | rt r =>
      obtain ⟨e1, h3⟩ := h
      rw [h3]
      exact ⟨e1, rfl⟩
  | ex x =>
    obtain ⟨e1, h3⟩ := h
    rw [h3]
    exact ⟨e1, rfl⟩
  | bad => trivial
theorem tb_ret {m : ME} {t : Rt ρ} (h : TE n G m cr t G1) : TB n G (sRet m) cr t := by
  have := tb_exp (k := fun d e μ => match d.plain with
    | true => .rt d e μ
    | false => .bad) (u := fun a => Rt.ok a) (cr := cr) h fun a e μ he => ⟨e, by simp only [cr.pl]⟩
  rwa [Rt.bind_ok] at this
theorem tn_if {mc : Ma Bool} {a b : MS} {tc : Rt Bool} {ta tb : Rt σ} {Gs : σ → Ctx} (h : TT n G mc tc G1) (ha : TN n G1 a ta Gs) (hb : TN n G1 b tb Gs) : TN n G (sIf mc a b) (tc.bind fun k => cond k ta tb) Gs := tn_exp h fun k => by
  cases k
  · exact hb
  · exact ha
theorem tb_if {mc : Ma Bool} {a b : MS} {tc : Rt Bool} {ta tb : Rt ρ} (h : TT n G mc tc G1) (ha : TB n G1 a cr ta) (hb : TB n G1 b cr tb) : TB n G (sIf mc a b) cr (tc.bind fun k => cond k ta tb) := tb_exp h fun k => by
  cases k
  · exact hb
  · exact ha
theorem to_if {mc : Ma Bool} {a b : MS} {tc : Rt Bool} {ta tb : Rt (Ou σ ρ)} {Gs : σ → Ctx} (h : TT n G mc tc G1) (ha : TO n G1 a cr ta Gs) (hb : TO n G1 b cr tb Gs) : TO n G (sIf mc a b) cr (tc.bind fun k => cond k ta tb) Gs := to_exp h fun k => by
  cases k
  · exact hb
  · exact ha
/-- if c: (returns); what follows -/
theorem tb_guard {mc : Ma Bool} {a r : MS} {tc : Rt Bool} {ta tr : Rt ρ} (h : TT n G mc tc G1) (ha : TB n G1 a cr ta) (hr : TB n G1 r cr tr) : TB n G (sSeq (sIf mc a sSkip) r) cr (tc.bind fun k => cond k ta tr) := by
  intro e μ he
  have h := h e μ he
  unfold sSeq sIf sExp
  cases tc with
  | ok k =>
    obtain ⟨e1, h3, h4⟩ := h
    rw [h3]
    cases k with
    | false => exact hr e1 μ h4
    | true =>
      have ha := ha e1 μ h4
      cases ta with
      | ok v =>
        obtain ⟨e2, h5⟩ := ha
        exact ⟨e2, by simp only [h5]⟩
      | ex x =>
        obtain ⟨e2, h5⟩ := ha
        exact ⟨e2, by simp only [h5]⟩
      | bad => trivial
  | ex x =>
    obtain ⟨e1, h3⟩ := h
    rw [h3]
    exact ⟨e1, rfl⟩
  | bad => trivial
/-- never reached, or not followed -/
theorem tn_bad {a : MS} {Gs : σ → Ctx} : TN n G a (.bad : Rt σ) Gs := fun _ _ _ => trivial
theorem tb_bad {a : MS} : TB n G a cr .bad := fun _ _ _ => trivial

/-! ### loops -/
def forT : List α → σ → (σ → α → Rt σ) → Rt σ
  | [], s, _ => .ok s
  | x :: r, s, f => (f s x).bind fun s' => forT r s' f
def forO : List α → σ → (σ → α → Rt (Ou σ ρ)) → Rt (Ou σ ρ)
  | [], s, _ => .ok (.nx s)
  | x :: r, s, f => (f s x).bind fun o => ouR o fun s' => forO r s' f
theorem tn_for {mi : Ma (List D)} {g : Tg} {b : MS} {ti : Rt (List α)} {f : σ → α → Rt σ} {Gs : σ → Ctx} {Gx : σ → α → Ctx} {s0 : σ} (hi : TG n G mi (fH c) ti G1) (hs : Looks G1 (Gs s0)) (hg : ∀ s x, TGt n (Gs s) g (c.d x) (Gx s x)) (hb : ∀ s x, TN n (Gx s x) b (f s x) Gs) :
    TN n G (sFor mi g b) (ti.bind fun xs => forT xs s0 f) Gs := tn_exp hi fun xs => by
  have key : ∀ (xs : List α) (s : σ), TN n (Gs s) (forL g b (xs.map c.d)) (forT xs s f) Gs := by
    intro xs
    induction xs with
    | nil => exact fun s e μ he => ⟨e, rfl, he⟩
    | cons x r ih =>
      intro s e μ he
      obtain ⟨e1, h1, h2⟩ := hg s x e μ he
      have h3 := hb s x e1 μ h2
      unfold forT
      simp only [List.map_cons, forL, h1]
      cases z : f s x with
      | ok s' =>
        rw [z] at h3
        obtain ⟨e2, h4, h5⟩ := h3
        simp only [h4]
        exact ih s' e2 μ h5
      | ex x =>
        rw [z] at h3
        obtain ⟨e2, h4⟩ := h3
        simp only [h4]
        exact ⟨e2, rfl⟩
      | bad => trivial
  exact fun e μ he => key xs s0 e μ (he.ent hs.ent)
theorem to_for {mi : Ma (List D)} {g : Tg} {b : MS} {ti : Rt (List α)} {f : σ → α → Rt (Ou σ ρ)} {Gs : σ → Ctx} {Gx : σ → α → Ctx} {s0 : σ} (hi : TG n G mi (fH c) ti G1) (hs : Looks G1 (Gs s0)) (hg : ∀ s x, TGt n (Gs s) g (c.d x) (Gx s x)) (hb : ∀ s x, TO n (Gx s x) b cr (f s x) Gs) :
    TO n G (sFor mi g b) cr (ti.bind fun xs => forO xs s0 f) Gs := to_exp hi fun xs => by
  have key : ∀ (xs : List α) (s : σ), TO n (Gs s) (forL g b (xs.map c.d)) cr (forO xs s f) Gs := by
    intro xs
    induction xs with
    | nil => exact fun s e μ he => ⟨e, rfl, he⟩
    | cons x r ih =>
      intro s e μ he
      obtain ⟨e1, h1, h2⟩ := hg s x e μ he
      have h3 := hb s x e1 μ h2
      unfold forO
      simp only [List.map_cons, forL, h1]
      cases z : f s x with
      | ok o =>
        rw [z] at h3
        cases o with
        | nx s' =>
          obtain ⟨e2, h4, h5⟩ := h3
          simp only [h4]
          exact ih s' e2 μ h5
        | rt v =>
          obtain ⟨e2, h4⟩ := h3
          simp only [h4]
          exact ⟨e2, rfl⟩
      | ex x =>
        rw [z] at h3
        obtain ⟨e2, h4⟩ := h3
        simp only [h4]
        exact ⟨e2, rfl⟩
      | bad => trivial
  exact fun e μ he => key xs s0 e μ (he.ent hs.ent)
def whileT : Nat → (σ → Rt Bool) → (σ → Rt σ) → σ → Rt σ
  | 0, _, _, _ => .bad
  | k + 1, c, f, s => (c s).bind fun b => cond b ((f s).bind fun s' => whileT k c f s') (.ok s)
theorem tn_while {mc : Ma Bool} {b : MS} {k : Nat} {tc : σ → Rt Bool} {f : σ → Rt σ} {Gs : σ → Ctx} {s0 : σ} (hs : Looks G (Gs s0)) (hc : ∀ s, TT n (Gs s) mc (tc s) (Gs s)) (hb : ∀ s, TN n (Gs s) b (f s) Gs) : TN n G (whileL mc b k) (whileT k tc f s0) Gs := by
  have key : ∀ (k : Nat) (s : σ), TN n (Gs s) (whileL mc b k) (whileT k tc f s) Gs := by
    intro k
    induction k with
    | zero => exact fun s e μ he => trivial
    | succ k ih =>
      intro s e μ he
      have h1 := hc s e μ he
      unfold whileT
      simp only [whileL]
      cases z : tc s with
      | ok v =>
        rw [z] at h1
        obtain ⟨e1, h2, h3⟩ := h1
        simp only [h2]
        cases v with
        | false => exact ⟨e1, rfl, h3⟩
        | true =>
          have h4 := hb s e1 μ h3
          simp only [Rt.ok_bind, cond_true]
          cases y : f s with
          | ok s' =>
            rw [y] at h4
            obtain ⟨e2, h5, h6⟩ := h4
            simp only [h5]
            exact ih s' e2 μ h6
          | ex x =>
            rw [y] at h4
            obtain ⟨e2, h5⟩ := h4
            simp only [h5]
            exact ⟨e2, rfl⟩
          | bad => trivial
      | ex x =>
        rw [z] at h1
        obtain ⟨e1, h2⟩ := h1
        simp only [h2]
        exact ⟨e1, rfl⟩
      | bad => trivial
  exact fun e μ he => key k s0 e μ (he.ent hs.ent)

/-! ### functions, calls -/
def TF {α ρ : Type} (mf : MF) (q : Cq α) (c : Cd ρ) (f : α → Rt ρ) : Prop := ∀ a μ, RF μ (mf (q.d a) μ) c (f a)
def ctx0 : Nat → List D → Ctx
  | _, [] => []
  | i, d :: ds => (i, .val d) :: ctx0 (i + 1) ds
theorem ctx0_get : ∀ (ds : List D) (i : Nat) (p : Nat × LV), p ∈ ctx0 i ds → ∃ j d, p = (i + j, .val d) ∧ ds[j]? = some d
  | [], _, _, h => by cases h
  | d :: ds, i, p, h => by
    rcases List.mem_cons.mp h with rfl | h
    · exact ⟨0, d, rfl, rfl⟩
    · obtain ⟨j, d', h1, h2⟩ := ctx0_get ds (i + 1) p h
      exact ⟨j + 1, d', by rw [h1]; congr 1; omega, h2⟩
theorem hs_start (ds : List D) (N : Nat) (h : ds.length ≤ N) : Hs N (ctx0 0 ds) (en0 N ds) := by
  refine ⟨by unfold en0; rw [List.length_append, List.length_map, List.length_replicate]; omega, fun p hp => ?_⟩
  obtain ⟨j, d, rfl, h2⟩ := ctx0_get ds 0 p hp
  have hj : j < ds.length := (List.getElem?_eq_some_iff.mp h2).1
  show (en0 N ds)[0 + j]? = some (.val d)
  rw [Nat.zero_add, en0, List.getElem?_append_left (by rw [List.length_map]; exact hj), List.getElem?_map, h2]
  rfl
theorem tf_b {q : Cq α} {k N : Nat} {b : MS} {f : α → Rt ρ} (h : ∀ a, TB N (ctx0 0 (q.d a)) b cr (f a)) (hk : Nat.beq q.n k = true) (hN : Nat.ble k N = true) : TF (mFun k N b) q cr f := fun a μ => by
  have e := Nat.eq_of_beq_eq_true hk
  have h := h a (en0 N (q.d a)) μ (hs_start _ _ (by rw [q.len, e]; exact Nat.le_of_ble_eq_true hN))
  have key : mFun k N b (q.d a) μ = outF (b (en0 N (q.d a)) μ) := by
    unfold mFun
    rw [q.len, hk]
  rw [key]
  cases z : f a with
  | ok r =>
    rw [z] at h
    obtain ⟨e', h⟩ := h
    rw [h]
    rfl
  | ex x =>
    rw [z] at h
    obtain ⟨e', h⟩ := h
    rw [h]
    rfl
  | bad => trivial
/-- one that hands back nothing -/
theorem tf_n {q : Cq α} {k N : Nat} {b : MS} {f : α → Rt σ} {Gs : α → σ → Ctx} (h : ∀ a, TN N (ctx0 0 (q.d a)) b (f a) (Gs a)) (hk : Nat.beq q.n k = true) (hN : Nat.ble k N = true) : TF (mFun k N b) q cN fun a => (f a).bind fun _ => .ok () := fun a μ => by
  show RF μ _ cN ((f a).bind fun _ => .ok ())
  have e := Nat.eq_of_beq_eq_true hk
  have h := h a (en0 N (q.d a)) μ (hs_start _ _ (by rw [q.len, e]; exact Nat.le_of_ble_eq_true hN))
  have key : mFun k N b (q.d a) μ = outF (b (en0 N (q.d a)) μ) := by
    unfold mFun
    rw [q.len, hk]
  rw [key]
  cases z : f a with
  | ok r =>
    rw [z] at h
    obtain ⟨e', h, _⟩ := h
    rw [h]
    rfl
  | ex x =>
    rw [z] at h
    obtain ⟨e', h⟩ := h
    rw [h]
    rfl
  | bad => trivial
theorem tf_call {q : Cq α} {mf : MF} {f : α → Rt ρ} (h : TF mf q cr f) (a : α) {ds zs dd : List D} {plan : List Nat} {k m : Nat} (h1 : ((Nat.beq ds.length k && Nat.beq zs.length m) && plains (ds ++ zs)) = true) (h2 : pickL .non plan (ds ++ zs ++ dd) = q.d a) : TE n G (fCall mf plan dd k m ds zs) cr (f a) G := fun e μ he => by
  have h := h a μ
  unfold fCall
  rw [h1, h2]
  cases z : f a with
  | ok r =>
    rw [z] at h
    exact ⟨e, by rw [show mf (q.d a) μ = .ok (cr.d r) μ from h]; rfl, he⟩
  | ex x =>
    rw [z] at h
    exact ⟨e, by rw [show mf (q.d a) μ = .ex x μ from h]; rfl⟩
  | bad => trivial
theorem te_call {q : Cq α} {mf : MF} {f : α → Rt ρ} {plan : List Nat} {dd : List D} {k : Nat} {ma : Ma (List D)} {t : Rt α} (h : TF mf q cr f) (ha : TA n G ma q t G1) (hk : Nat.beq q.n k = true) (hp : ∀ a, pickL .non plan (q.d a ++ [] ++ dd) = q.d a) : TE n G (mCall mf plan dd k ma) cr (t.bind f) G1 :=
  tg_bind ha fun a => tf_call h a (by rw [q.len, hk, List.append_nil, q.pl]; rfl) (hp a)
/-- with keywords: the values in another order -/
theorem te_callK {q : Cq α} {q2 : Cq β} {mf : MF} {f : α → Rt ρ} {plan : List Nat} {dd : List D} {m : Nat} {mk : Ma (List D)} {t : Rt β} (u : β → α) (h : TF mf q cr f) (ha : TA n G mk q2 t G1) (hk : Nat.beq q2.n m = true) (hp : ∀ b, pickL .non plan (q2.d b ++ dd) = q.d (u b)) : TE n G (mCallK mf plan dd 0 m aNil mk) cr (t.bind fun b => f (u b)) G1 := by
  have h0 : TG n G aNil (fun _ : Unit => []) (.ok ()) G := tg_ok fun _ _ _ => rfl
  have := tg_bind (k := fun ds => mBind mk fun zs => fCall mf plan dd 0 m ds zs) (g := cr.d) (u := fun _ => t.bind fun b => f (u b)) h0 fun _ => tg_bind ha fun b => tf_call h (u b) (dd := dd) (plan := plan) (k := 0) (m := m) (ds := []) (zs := q2.d b) (n := n) (G := G1) (by rw [List.nil_append, q2.len, hk, q2.pl]; rfl) (by rw [List.nil_append]; exact hp b)
  exact this
end
end Ty

set_option maxRecDepth 100000
set_option maxHeartbeats 4000000
/-! Ty5: own lists changed, tables, sorting, counting, what is shown; several names at once. -/
namespace Ty
open PySem PySem.Spec PyProof.Rows L2 Ev
section
variable {α β γ δ σ τ ρ κ ν : Type} {n : Nat} {G G1 G2 G3 : Ctx} {c : Cd α}
theorem hvar {e : En} {μ : Mu} {i : Nat} {o : O} (h : Hs n G e) (k : look G i = some (.own o)) : mVar i e μ = .ok (.loc i) e μ := by
  unfold mVar
  rw [h.look k]
theorem hcontE {e : En} {μ : Mu} {i : Nat} {o : O} (h : Hs n G e) (k : look G i = some (.own o)) : contE e μ (.loc i) = some o := by
  simp only [Ev.contE, h.look k]
theorem hcontW {e : En} {μ : Mu} {i : Nat} {o : O} (h : Hs n G e) (k : look G i = some (.own o)) : contW e μ (.loc i) = some o := by
  simp only [Ev.contW, h.look k]
/-- one argument of a method of an own list -/
theorem meth1 {i : Nat} {xs : List α} {m : ME} {f : D → List D → ME} {t : Rt β} {c2 : Cd β} (h : look G i = some (.own (oL c xs))) (hm : TE n G m c2 t G1) (e : En) (μ : Mu) (he : Hs n G e) :
    match t with
    | .ok b => ∃ e1, Hs n G1 e1 ∧ mMeth (mVar i) (aCons m aNil) f e μ = f (.loc i) [c2.d b] e1 μ
    | .ex x => ∃ e1, mMeth (mVar i) (aCons m aNil) f e μ = .ex x e1 μ
    | .bad => True := by
  have key : mMeth (mVar i) (aCons m aNil) f e μ = mBind (aCons m aNil) (fun ds => f (.loc i) ds) e μ := by
    unfold mMeth
    show (mVar i e μ).bind _ = _
    rw [hvar he h]
    show (match Ev.contE e μ (.loc i) with
      | some (.lst _) => mBind (aCons m aNil) (fun ds => f (.loc i) ds) e μ
      | _ => .bad) = _
    rw [hcontE he h]
    rfl
  have h1 := ta_one hm e μ he
  rw [key]
  unfold mBind
  cases t with
  | ok b =>
    obtain ⟨e1, h2, h3⟩ := h1
    exact ⟨e1, h3, by rw [h2]; rfl⟩
  | ex x =>
    obtain ⟨e1, h2⟩ := h1
    exact ⟨e1, by rw [h2]; rfl⟩
  | bad => trivial
def apR (xs : List α) (a : α) : Rt (List α) := match lineB (xs.length + 1) with
  | true => .ok (xs ++ [a])
  | false => .bad
theorem tn_append {i : Nat} {xs : List α} {m : ME} {t : Rt α} (hi : Nat.blt i n = true) (h : look G i = some (.own (oL c xs))) (hm : TE n G m c t G1) (h1 : look G1 i = some (.own (oL c xs))) :
    TN n G (sDo (mMeth (mVar i) (aCons m aNil) fAppend)) (t.bind fun a => apR xs a) fun ys => put G1 i (.own (oL c ys)) := fun e μ he => by
  have k := meth1 (f := fAppend) h hm e μ he
  unfold sDo sExp
  cases t with
  | ok a =>
    obtain ⟨e1, h2, h3⟩ := k
    rw [h3, Rt.ok_bind]
    unfold apR
    cases z : lineB (xs.length + 1) with
    | true =>
      refine ⟨e1.set i (.own (oL c (xs ++ [a]))), ?_, h2.put hi⟩
      have q : fAppend (.loc i) [c.d a] e1 μ = .ok .non (e1.set i (.own (oL c (xs ++ [a])))) μ := by
        unfold fAppend
        simp only [hcontW h2 h1, oL, List.length_map, c.pl, z, Bool.and_self, putE, putM, List.map_append, List.map_cons, List.map_nil]
      rw [q]
    | false => trivial
  | ex x =>
    obtain ⟨e1, h3⟩ := k
    rw [h3]
    exact ⟨e1, rfl⟩
  | bad => trivial
theorem tn_extend {i : Nat} {xs : List α} {m : ME} {t : Rt (List α)} (hi : Nat.blt i n = true) (h : look G i = some (.own (oL c xs))) (hm : TE n G m (cL c) t G1) (h1 : look G1 i = some (.own (oL c xs))) :
    TN n G (sDo (mMeth (mVar i) (aCons m aNil) fExtend)) (t.bind fun a => catR xs a) fun ys => put G1 i (.own (oL c ys)) := fun e μ he => by
  have k := meth1 (f := fExtend) h hm e μ he
  unfold sDo sExp
  cases t with
  | ok a =>
    obtain ⟨e1, h2, h3⟩ := k
    rw [h3, Rt.ok_bind]
    unfold catR
    cases z : lineB (xs.length + a.length) with
    | true =>
      refine ⟨e1.set i (.own (oL c (xs ++ a))), ?_, h2.put hi⟩
      have q : fExtend (.loc i) [(cL c).d a] e1 μ = .ok .non (e1.set i (.own (oL c (xs ++ a)))) μ := by
        unfold fExtend
        simp only [hcontW h2 h1, oL, cL, lstX, List.length_map, z, putE, putM, List.map_append]
      rw [q]
    | false => trivial
  | ex x =>
    obtain ⟨e1, h3⟩ := k
    rw [h3]
    exact ⟨e1, rfl⟩
  | bad => trivial
/-- x = xs.pop() -/
def popR (xs : List α) : Rt (List α × α) := match xs[xs.length - 1]? with
  | some a => .ok (xs.dropLast, a)
  | none => .bad
theorem tn_pop {i j : Nat} {xs : List α} (hi : Nat.blt i n = true) (hj : Nat.blt j n = true) (h : look G i = some (.own (oL c xs))) :
    TN n G (sSet j (mMeth (mVar i) aNil fPop)) (popR xs) fun s => put (put G i (.own (oL c s.1))) j (.val (c.d s.2)) := fun e μ he => by
  have key : mMeth (mVar i) aNil fPop e μ = fPop (.loc i) [] e μ := by
    unfold mMeth
    show (mVar i e μ).bind _ = _
    rw [hvar he h]
    show (match Ev.contE e μ (.loc i) with
      | some (.lst _) => mBind aNil (fun ds => fPop (.loc i) ds) e μ
      | _ => .bad) = _
    rw [hcontE he h]
    rfl
  unfold popR
  cases z : xs[xs.length - 1]? with
  | none => trivial
  | some a =>
    refine ⟨(e.set i (.own (oL c xs.dropLast))).set j (.val (c.d a)), ?_, (he.put hi).put hj⟩
    have q : fPop (.loc i) [] e μ = .ok (c.d a) (e.set i (.own (oL c xs.dropLast))) μ := by
      unfold fPop
      simp only [hcontW he h, oL, List.length_map, List.getElem?_map, z, Option.map_some, putE, putM, List.map_dropLast]
    unfold sSet sExp
    rw [key, q]
    simp only [c.pl]
/-! ### xs[i] = v -/
def setR (xs : List α) (i : Int) (a : α) : Rt (List α) := match ixN xs.length i with
  | some j => .ok (xs.set j a)
  | none => .bad
theorem item_run {i : Nat} {xs : List α} {mk : ME} {tk : Rt Int} {a : α} (hi : Nat.blt i n = true) (h : look G i = some (.own (oL c xs))) (hk : TE n G mk cI tk G) (e : En) (μ : Mu) (he : Hs n G e) : match (tk.bind fun k => setR xs k a) with
    | .ok ys => ∃ e', gItem (mVar i) mk (c.d a) e μ = .ok () e' μ ∧ Hs n (put G i (.own (oL c ys))) e'
    | .ex x => ∃ e', gItem (mVar i) mk (c.d a) e μ = .ex x e' μ
    | .bad => True := by
  have k := hk e μ he
  have key : gItem (mVar i) mk (c.d a) e μ = (mk e μ).bind fun k e μ => match k, Ev.contW e μ (.loc i) with
    | .int z, some (.lst xs) => (match (c.d a).plain, ixN xs.length z with
      | true, some j => .ok () (putE e (.loc i) (.lst (xs.set j (c.d a)))) (putM μ (.loc i) (.lst (xs.set j (c.d a))))
      | _, _ => .bad)
    | _, _ => .bad := by
    unfold gItem
    show (mVar i e μ).bind _ = _
    rw [hvar he h]
    rfl
  rw [key]
  cases tk with
  | ok z =>
    obtain ⟨e1, k1, k2⟩ := k
    rw [k1, Rt.ok_bind]
    unfold setR
    cases w : ixN xs.length z with
    | none => trivial
    | some j =>
      refine ⟨e1.set i (.own (oL c (xs.set j a))), ?_, k2.put hi⟩
      show (match D.int z, Ev.contW e1 μ (.loc i) with
        | .int z, some (.lst xs) => (match (c.d a).plain, ixN xs.length z with
          | true, some j => (.ok () (putE e1 (.loc i) (.lst (xs.set j (c.d a)))) (putM μ (.loc i) (.lst (xs.set j (c.d a)))) : Rs Unit)
          | _, _ => .bad)
        | _, _ => .bad) = _
      rw [hcontW k2 h]
      simp only [oL, c.pl, List.length_map, w, putE, putM, List.map_set]
  | ex x =>
    obtain ⟨e1, k1⟩ := k
    rw [k1]
    exact ⟨e1, rfl⟩
  | bad => trivial
theorem tn_item {i : Nat} {xs : List α} {m mk : ME} {t : Rt α} {tk : Rt Int} (hi : Nat.blt i n = true) (hm : TE n G m c t G1) (h : look G1 i = some (.own (oL c xs))) (hk : TE n G1 mk cI tk G1) :
    TN n G (sAsg m (gItem (mVar i) mk)) (t.bind fun a => tk.bind fun k => setR xs k a) fun ys => put G1 i (.own (oL c ys)) := tn_exp hm fun a e μ he => by
  have k := item_run (a := a) hi h hk e μ he
  cases z : (tk.bind fun k => setR xs k a) with
  | ok ys =>
    rw [z] at k
    obtain ⟨e', h1, h2⟩ := k
    rw [h1]
    exact ⟨e', rfl, h2⟩
  | ex x =>
    rw [z] at k
    obtain ⟨e', h1⟩ := k
    rw [h1]
    exact ⟨e', rfl⟩
  | bad => trivial
/-- xs[k], xs[l] = v, w -/
theorem tn_item2 {i : Nat} {xs : List α} {m m2 mk ml : ME} {t t2 : Rt α} {tk : Rt Int} {tl : List α → Rt Int} (hi : Nat.blt i n = true) (hm : TE n G m c t G1) (hm2 : TE n G1 m2 c t2 G2) (h : look G2 i = some (.own (oL c xs))) (hk : TE n G2 mk cI tk G2) (hl : ∀ ys, TE n (put G2 i (.own (oL c ys))) ml cI (tl ys) (put G2 i (.own (oL c ys)))) :
    TN n G (sAsg (mTup (aCons m (aCons m2 aNil))) (gTupl 2 (gMore (gItem (mVar i) mk) (gMore (gItem (mVar i) ml) gNone)))) (t.bind fun a => t2.bind fun b => (tk.bind fun k => setR xs k a).bind fun ys => (tl ys).bind fun l => setR ys l b) fun zs => put (put G2 i (.own (oL c zs))) i (.own (oL c zs)) := by
  have ht := te_tupP (ta_cons hm (ta_one hm2)) rfl
  have := tn_exp (k := fun d e μ => match gTupl 2 (gMore (gItem (mVar i) mk) (gMore (gItem (mVar i) ml) gNone)) d e μ with
    | .ok _ e μ => .nx e μ
    | .ex x e μ => .ex x e μ
    | .bad => .bad) (u := fun p : α × α => (tk.bind fun k => setR xs k p.1).bind fun ys => (tl ys).bind fun l => setR ys l p.2) (Gs := fun zs => put (put G2 i (.own (oL c zs))) i (.own (oL c zs))) ht fun p e μ he => by
      have k := item_run (a := p.1) hi h hk e μ he
      have key : gTupl 2 (gMore (gItem (mVar i) mk) (gMore (gItem (mVar i) ml) gNone)) ((cP (qc c (q1 c))).d p) e μ = (gItem (mVar i) mk (c.d p.1) e μ).bind fun _ e μ => (gItem (mVar i) ml (c.d p.2) e μ).bind fun _ e μ => .ok () e μ := rfl
      show RN n μ (match gTupl 2 (gMore (gItem (mVar i) mk) (gMore (gItem (mVar i) ml) gNone)) ((cP (qc c (q1 c))).d p) e μ with
        | .ok _ e μ => .nx e μ
        | .ex x e μ => .ex x e μ
        | .bad => .bad) _ _
      rw [key]
      cases z : (tk.bind fun k => setR xs k p.1) with
      | ok ys =>
        rw [z] at k
        obtain ⟨e', h1, h2⟩ := k
        rw [h1, Rt.ok_bind]
        have lk : look (put G2 i (.own (oL c ys))) i = some (.own (oL c ys)) := by
          simp only [put, look, Nat.beq_refl]
        have k2 := item_run (a := p.2) hi lk (hl ys) e' μ h2
        show RN n μ (match (gItem (mVar i) ml (c.d p.2) e' μ).bind fun _ e μ => .ok () e μ with
          | .ok _ e μ => .nx e μ
          | .ex x e μ => .ex x e μ
          | .bad => .bad) _ _
        cases z2 : ((tl ys).bind fun l => setR ys l p.2) with
        | ok zs =>
          rw [z2] at k2
          obtain ⟨e2, h3, h4⟩ := k2
          rw [h3]
          refine ⟨e2, rfl, h4.ent fun q hq => ?_⟩
          have dd : ∀ l l' : LV, del (put G2 i l) i = del (put G2 i l') i := fun l l' => by simp only [put, del, Nat.beq_refl]
          show q ∈ put (put G2 i (.own (oL c ys))) i (.own (oL c zs))
          rw [put, dd _ (.own (oL c zs))]
          exact hq
        | ex x =>
          rw [z2] at k2
          obtain ⟨e2, h3⟩ := k2
          rw [h3]
          exact ⟨e2, rfl⟩
        | bad => trivial
      | ex x =>
        rw [z] at k
        obtain ⟨e', h1⟩ := k
        rw [h1]
        exact ⟨e', rfl⟩
      | bad => trivial
  rw [Rt.bind_assoc] at this
  simp only [Rt.bind_assoc, Rt.ok_bind] at this ⊢
  exact this

/-! ### tables with tuples as keys -/
class CKa {α : Type} (c : Cd α) where
  k : α → Key
  ok : ∀ a, keyA (c.d a) = some (k a)
  inj : ∀ a b, k a = k b → a = b
class CKs {α : Type} (q : Cq α) where
  ks : α → List Key
  ok : ∀ a, keysA (q.d a) = some (ks a)
  inj : ∀ a b, ks a = ks b → a = b
class CKey {α : Type} (c : Cd α) where
  key : α → List Key
  ok : ∀ a, keyT (c.d a) = some (key a)
  inj : ∀ a b, key a = key b → a = b
instance : CKa cI := ⟨.inl, fun _ => rfl, fun _ _ h => by injection h⟩
instance : CKa cS := ⟨.inr, fun _ => rfl, fun _ _ h => by injection h⟩
theorem keysA_map (c : Cd α) [CKa c] : ∀ xs : List α, keysA (xs.map c.d) = some (xs.map (CKa.k c))
  | [] => rfl
  | x :: xs => by simp only [List.map_cons, keysA, CKa.ok, keysA_map c xs]
instance (c : Cd α) [CKa c] : CKey (cT c) := ⟨fun xs => xs.map (CKa.k c), fun xs => keysA_map c xs, fun a b h => (List.map_inj_right (fun _ _ e => CKa.inj _ _ e)).mp h⟩
instance (c : Cd α) [CKa c] : CKs (q1 c) := ⟨fun a => [CKa.k c a], fun a => by simp only [q1, keysA, CKa.ok], fun a b h => CKa.inj _ _ (List.cons.inj h).1⟩
instance (c : Cd α) [CKa c] (q : Cq β) [CKs q] : CKs (qc c q) := ⟨fun a => CKa.k c a.1 :: CKs.ks q a.2, fun a => by simp only [qc, keysA, CKa.ok, CKs.ok], fun a b h => Prod.ext (CKa.inj _ _ (List.cons.inj h).1) (CKs.inj _ _ (List.cons.inj h).2)⟩
instance (q : Cq α) [CKs q] : CKey (cP q) := ⟨CKs.ks q, CKs.ok, CKs.inj⟩
def lk [DecidableEq κ] : List (κ × ν) → κ → Option ν
  | [], _ => none
  | (k, v) :: r, q => if k = q then some v else lk r q
def pt [DecidableEq κ] (kv : List (κ × ν)) (q : κ) (x : ν) : List (κ × ν) := match lk kv q with
  | some _ => kv.map fun p => (p.1, if p.1 = q then x else p.2)
  | none => kv ++ [(q, x)]
/-- a table: a value, or an own object -/
def DV (n : Nat) (G : Ctx) (d : D) (o : O) : Prop := ∀ e μ, Hs n G e → contE e μ d = some o
def TD {κ ν : Type} (n : Nat) (G : Ctx) (m : ME) (ck : Cd κ) (cv : Cd ν) (t : Rt (List (κ × ν))) (G' : Ctx) : Prop := ∀ e μ, Hs n G e → match t with
  | .ok kv => ∃ d e', m e μ = .ok d e' μ ∧ Hs n G' e' ∧ DV n G' d (oM ck cv kv)
  | .ex x => ∃ e', m e μ = .ex x e' μ
  | .bad => True
variable {ck : Cd κ} {cv : Cd ν}
theorem td_M {m : ME} {t : Rt (List (κ × ν))} (h : TE n G m (cM ck cv) t G1) : TD n G m ck cv t G1 := by
  intro e μ he
  have h := h e μ he
  cases t with
  | ok xs =>
    obtain ⟨e1, h3, h4⟩ := h
    exact ⟨_, e1, h3, h4, fun _ _ _ => rfl⟩
  | ex x => exact h
  | bad => trivial
theorem td_own {i : Nat} {kv : List (κ × ν)} (h : look G i = some (.own (oM ck cv kv))) : TD n G (mVar i) ck cv (.ok kv) G := fun e μ he =>
  ⟨.loc i, e, hvar he h, he, fun e μ he => hcontE he h⟩
variable [DecidableEq κ] [CKey ck]
theorem dFind_lk (q : κ) : ∀ kv : List (κ × ν), dFind keyT (kv.map fun p => ck.d p.1) (kv.map fun p => cv.d p.2) (CKey.key ck q) = (lk kv q).map cv.d
  | [] => by simp [dFind, lk]
  | (k, v) :: r => by
    simp only [List.map_cons, dFind, lk, CKey.ok]
    by_cases e : k = q
    · subst e
      rw [decide_eq_true rfl, if_pos rfl]
      rfl
    · rw [decide_eq_false (fun z => e (CKey.inj _ _ (Option.some.inj z))), if_neg e]
      exact dFind_lk q r
theorem dAt_lk {e : En} {μ : Mu} {d : D} {kv : List (κ × ν)} {q : κ} (h : contE e μ d = some (oM ck cv kv)) : dAt e μ d (ck.d q) = some ((lk kv q).map cv.d) := by
  simp only [dAt, h, oM, CKey.ok, dFind_lk]
theorem dSet_map (q : κ) (x : ν) : ∀ kv : List (κ × ν), dSet keyT (kv.map fun p => ck.d p.1) (kv.map fun p => cv.d p.2) (CKey.key ck q) (cv.d x) = kv.map fun p => cv.d (if p.1 = q then x else p.2)
  | [] => by simp [dSet]
  | (k, v) :: r => by
    simp only [List.map_cons, dSet, CKey.ok, dSet_map q x r]
    by_cases e : k = q
    · subst e
      rw [decide_eq_true rfl, if_pos rfl]
    · rw [decide_eq_false (fun z => e (CKey.inj _ _ (Option.some.inj z))), if_neg e]
theorem dPut_pt (q : κ) (v : ν) (kv : List (κ × ν)) : dPutD (kv.map fun p => ck.d p.1) (kv.map fun p => cv.d p.2) (ck.d q) (cv.d v) = some (oM ck cv (pt kv q v)) := by
  simp only [dPutD, CKey.ok, dPut, dFind_lk, pt]
  cases lk kv q with
  | none => simp only [Option.map_none, oM, List.map_append, List.map_cons, List.map_nil]
  | some w => simp only [Option.map_some, oM, dSet_map, List.map_map]; rfl
def dGetR (kv : List (κ × ν)) (q : κ) : Rt ν := match lk kv q with
  | some v => .ok v
  | none => .bad
/-- an operation of a table and a key that changes no slot -/
theorem td_op {f3 : γ → δ} {f : D → D → Ma δ} {op : List (κ × ν) → κ → Rt γ} {m mb : ME} {t : Rt (List (κ × ν))} {t2 : Rt κ} (o : ∀ kv b, match op kv b with | .ok r => ∀ d e μ, dAt e μ d (ck.d b) = some ((lk kv b).map cv.d) → f d (ck.d b) e μ = .ok (f3 r) e μ | .ex _ => False | .bad => True)
    (h : TD n G m ck cv t G1) (h2 : TE n G1 mb ck t2 G1) : TG n G (m2 f m mb) f3 (t.bind fun xs => t2.bind fun b => op xs b) G1 := by
  intro e μ he
  have h := h e μ he
  show RG n f3 G1 μ ((m e μ).bind fun x => mBind mb fun y => f x y) _
  cases t with
  | ok xs =>
    obtain ⟨d, e1, h3, h4, h5⟩ := h
    rw [h3, Rt.ok_bind]
    have h2 := h2 e1 μ h4
    show RG n f3 G1 μ ((mb e1 μ).bind fun y => f d y) _
    cases t2 with
    | ok b =>
      obtain ⟨e2, h6, h7⟩ := h2
      rw [h6, Rt.ok_bind]
      have o := o xs b
      cases z : op xs b with
      | ok r =>
        rw [z] at o
        exact ⟨e2, o d e2 μ (dAt_lk (h5 e2 μ h7)), h7⟩
      | ex x =>
        rw [z] at o
        exact o.elim
      | bad => trivial
    | ex x =>
      obtain ⟨e2, h3⟩ := h2
      rw [h3]
      exact ⟨e2, rfl⟩
    | bad => trivial
  | ex x =>
    obtain ⟨e1, h3⟩ := h
    rw [h3]
    exact ⟨e1, rfl⟩
  | bad => trivial
theorem te_dget {m mb : ME} {t : Rt (List (κ × ν))} {t2 : Rt κ} (h : TD n G m ck cv t G1) (h2 : TE n G1 mb ck t2 G1) : TE n G (m2 fDGet m mb) cv (t.bind fun xs => t2.bind fun b => dGetR xs b) G1 := td_op (fun kv b => by
  unfold dGetR
  cases z : lk kv b with
  | none => trivial
  | some v =>
    intro d e μ hd
    unfold fDGet
    rw [hd]
    rfl) h h2
theorem te_din {neg : Bool} {m mb : ME} {t : Rt (List (κ × ν))} {t2 : Rt κ} (h2 : TE n G mb ck t2 G1) (h : TD n G1 m ck cv t G2) : TE n G (m2 (fDIn neg) mb m) cB (t2.bind fun b => t.bind fun xs => .ok (negB neg (lk xs b).isSome)) G2 := tg_bind h2 fun b e μ he => by
  have h := h e μ he
  unfold mBind
  cases t with
  | ok xs =>
    obtain ⟨d, e1, h3, h4, h5⟩ := h
    rw [h3]
    refine ⟨e1, ?_, h4⟩
    show fDIn neg (ck.d b) d e1 μ = _
    unfold fDIn
    rw [dAt_lk (h5 e1 μ h4)]
    cases lk xs b <;> rfl
  | ex x =>
    obtain ⟨e1, h3⟩ := h
    rw [h3]
    exact ⟨e1, rfl⟩
  | bad => trivial
theorem te_dget2 {m mb mz : ME} {t : Rt (List (κ × ν))} {t2 : Rt κ} {t3 : Rt ν} (h : TD n G m ck cv t G1) (h2 : TE n G1 mb ck t2 G1) (h3 : TE n G1 mz cv t3 G1) : TE n G (mDGet2 m mb mz) cv (t.bind fun xs => t2.bind fun b => t3.bind fun z => .ok ((lk xs b).getD z)) G1 := by
  intro e μ he
  have h := h e μ he
  show RG n cv.d G1 μ ((m e μ).bind fun d e μ => match isDic e μ d with
    | true => mBind mb (fun k => mBind mz fun z => fDGet2 d k z) e μ
    | false => .bad) _
  cases t with
  | ok xs =>
    obtain ⟨d, e1, h4, h5, h6⟩ := h
    rw [h4, Rt.ok_bind]
    show RG n cv.d G1 μ (match isDic e1 μ d with
      | true => mBind mb (fun k => mBind mz fun z => fDGet2 d k z) e1 μ
      | false => .bad) _
    rw [show isDic e1 μ d = true by unfold isDic; rw [h6 e1 μ h5]; rfl]
    have hh : TG n G1 (mBind mb fun k => mBind mz fun z => fDGet2 d k z) cv.d (t2.bind fun b => t3.bind fun z => .ok ((lk xs b).getD z)) G1 := tg_bind h2 fun b => tg_map h3 fun z e μ he => by
      unfold fDGet2
      rw [dAt_lk (h6 e μ he)]
      cases lk xs b <;> rfl
    exact hh e1 μ h5
  | ex x =>
    obtain ⟨e1, h3⟩ := h
    rw [h3]
    exact ⟨e1, rfl⟩
  | bad => trivial
def ptR (kv : List (κ × ν)) (q : κ) (x : ν) : Rt (List (κ × ν)) := match Nat.ble kv.length 1000000 with
  | true => .ok (pt kv q x)
  | false => .bad
theorem tn_dput {i : Nat} {kv : List (κ × ν)} {mv mk : ME} {t : Rt ν} {t2 : Rt κ} (hi : Nat.blt i n = true) (hv : TE n G mv cv t G1) (h : look G1 i = some (.own (oM ck cv kv))) (hk : TE n G1 mk ck t2 G2) (h2 : look G2 i = some (.own (oM ck cv kv))) :
    TN n G (sDPutM (mVar i) mk mv) (t.bind fun v => t2.bind fun k => ptR kv k v) fun kv' => put G2 i (.own (oM ck cv kv')) := by
  have hm : TG n G (mBind mv fun v => mBind (mVar i) fun d => mBind mk fun k => fun e μ => .ok (v, d, k) e μ) (fun p : ν × κ => (cv.d p.1, D.loc i, ck.d p.2)) (t.bind fun v => t2.bind fun k => .ok (v, k)) G2 := tg_bind hv fun v => by
    have h0 : TG n G1 (mVar i) (fun _ : Unit => D.loc i) (.ok ()) G1 := tg_ok fun e μ he => hvar he h
    exact tg_bind (u := fun _ => t2.bind fun k => .ok (v, k)) (k := fun d => mBind mk fun k => fun e μ => .ok (cv.d v, d, k) e μ) h0 fun _ => tg_map (k := fun k => fun e μ => .ok (cv.d v, D.loc i, k) e μ) (u := fun k => (v, k)) hk fun k e μ _ => rfl
  have := tn_exp (k := fun x e μ => match contW e μ x.2.1 with
    | some (.dic true ks vs) => (match x.1.plain && Nat.ble ks.length 1000000, dPutD ks vs x.2.2 x.1 with
      | true, some o => .nx (putE e x.2.1 o) (putM μ x.2.1 o)
      | _, _ => .bad)
    | _ => .bad) (u := fun p : ν × κ => ptR kv p.2 p.1) (Gs := fun kv' => put G2 i (.own (oM ck cv kv'))) hm fun p e μ he => by
      unfold ptR
      cases z : Nat.ble kv.length 1000000 with
      | false => trivial
      | true =>
        refine ⟨e.set i (.own (oM ck cv (pt kv p.2 p.1))), ?_, he.put hi⟩
        simp only [hcontW he h2, oM, cv.pl, List.length_map, z, Bool.and_self, dPut_pt, putE, putM]
  simp only [Rt.bind_assoc, Rt.ok_bind] at this
  exact this
omit [DecidableEq κ] [CKey ck] in
theorem tg_dnew : TG n G mDNew (oM ck cv) (.ok []) G := tg_ok fun _ _ _ => rfl
omit [DecidableEq κ] in
theorem tg_done {mk mv : ME} {t : Rt κ} {u : Rt ν} (h : TE n G mk ck t G1) (h2 : TE n G1 mv cv u G2) : TG n G (mDOne mk mv) (oM ck cv) (t.bind fun k => u.bind fun v => .ok [(k, v)]) G2 := tg_bind h fun k => tg_map h2 fun v e μ _ => by
  simp only [cv.pl, CKey.ok, oM, List.map_cons, List.map_nil]
end
/-! ### sorting, counting, what is shown -/
section
variable {α β γ δ σ : Type} {n : Nat} {G G1 G2 : Ctx} {c : Cd α} [DecidableEq α] [CEq c]
def leC (c : Cd α) (a b : α) : Bool := leD (c.d a) (c.d b)
omit [DecidableEq α] [CEq c] in
theorem insO_map (a : α) : ∀ xs : List α, insO leD (c.d a) (xs.map c.d) = (insO (leC c) a xs).map c.d
  | [] => rfl
  | x :: xs => by
    simp only [List.map_cons, insO, leC]
    cases leD (c.d a) (c.d x) with
    | true => rfl
    | false => simp only [List.map_cons, insO_map a xs]
omit [DecidableEq α] [CEq c] in
theorem insS_map : ∀ xs : List α, insS leD (xs.map c.d) = (insS (leC c) xs).map c.d
  | [] => rfl
  | x :: xs => by simp only [List.map_cons, insS, insS_map xs, insO_map]
def sortR (c : Cd α) [CEq c] (xs : List α) : Rt (List α) := match sortB (xs.map (CEq.p c)) with
  | true => .ok (insS (leC c) xs)
  | false => .bad
theorem tg_sort {m : ME} {t : Rt (List α)} (h : TS n G m c t G1) : TG n G (mBind m fSort) (oL c) (t.bind fun xs => sortR c xs) G1 := ts_un (fun xs => by
  unfold sortR
  cases z : sortB (xs.map (CEq.p c)) with
  | false => trivial
  | true =>
    intro d e μ hs
    unfold fSort
    simp only [hs, pds_map, z, insS_map]
    rfl) h
theorem cntB_ok (xs : List α) (a : α) (hd : Nat.ble (CEq.dep c) 20 = true) : cntB (xs.map (CEq.p c)) (CEq.p c a) = true := by
  have := Nat.le_of_ble_eq_true hd
  rw [cntB, plain_map, CEq.plain, Nat.ble_eq_true_of_le (Nat.le_trans (CEq.dle a) this)]
  rfl
theorem count_map (xs : List α) (a : α) : ((xs.map (CEq.p c)).countP fun y => PyData.eqv y (CEq.p c a)) = xs.countP fun y => decide (y = a) := by
  rw [List.countP_map]
  congr 1
  funext y
  exact CEq.eqv y a
theorem fCount_ok {d : D} {xs : List α} {a : α} {e : En} {μ : Mu} (hd : Nat.ble (CEq.dep c) 20 = true) (hs : seqE e μ d = some (xs.map c.d)) : fCount d (c.d a) e μ = .ok (.int ((xs.countP fun y => decide (y = a) : Nat) : Int)) e μ := by
  unfold fCount
  rw [hs, CEq.pd]
  simp only [pds_map, cntB_ok (c := c) xs a hd, count_map]
theorem te_countT {m mx : ME} {t : Rt (List α)} {u : Rt α} (hd : Nat.ble (CEq.dep c) 20 = true) (h : TE n G m (cT c) t G1) (h2 : TE n G1 mx c u G2) : TE n G (mCountT m mx) cI (t.bind fun xs => u.bind fun a => .ok ((xs.countP fun y => decide (y = a) : Nat) : Int)) G2 :=
  tg_bind h fun xs => tg_map (k := fun x => fCount ((cT c).d xs) x) (u := fun a => ((xs.countP fun y => decide (y = a) : Nat) : Int)) (g := cI.d) h2 fun a e μ he => fCount_ok hd rfl
theorem te_countL {m mx : ME} {t : Rt (List α)} {u : Rt α} (hd : Nat.ble (CEq.dep c) 20 = true) (h : TE n G m (cL c) t G1) (h2 : TE n G1 mx c u G2) : TE n G (mCountL m mx) cI (t.bind fun xs => u.bind fun a => .ok ((xs.countP fun y => decide (y = a) : Nat) : Int)) G2 :=
  tg_bind h fun xs => tg_map (k := fun x => fCount ((cL c).d xs) x) (u := fun a => ((xs.countP fun y => decide (y = a) : Nat) : Int)) (g := cI.d) h2 fun a e μ he => fCount_ok hd rfl
def reprR (p : PyData) : Rt Str := match repB p with
  | true => .ok (PyData.shown p)
  | false => .bad
def isSeqP : PyData → Bool
  | .list _ => true
  | .tuple _ => true
  | _ => false
theorem te_repr {m : ME} {t : Rt α} (hl : ∀ a, isSeqP (CEq.p c a) = true) (h : TE n G m c t G1) : TE n G (mBind m fRepr) cS (t.bind fun a => reprR (CEq.p c a)) G1 := tg_bind h fun a e μ he => by
  unfold reprR
  have hl := hl a
  cases z : repB (CEq.p c a) with
  | false => trivial
  | true =>
    refine ⟨e, ?_, he⟩
    show fRepr (c.d a) e μ = _
    unfold fRepr
    rw [pdE_of (CEq.pd a)]
    cases q : CEq.p c a with
    | list xs =>
      rw [q] at z
      simp only [z]
      rfl
    | tuple xs =>
      rw [q] at z
      simp only [z]
      rfl
    | _ =>
      rw [q] at hl
      cases hl
end
/-! ### several names at once -/
section
variable {α β γ δ σ : Type} {n : Nat} {G G1 G2 : Ctx} {c : Cd α}
theorem tp_V {m : ME} {t : Rt α} (h : TE n G m c t G1) : TG n G (pV m) (fun a => LV.val (c.d a)) t G1 := tg_same h fun a e μ _ => by simp only [c.pl]
theorem tp_O {m : Ma O} {f : α → O} {t : Rt α} (h : TG n G m f t G1) : TG n G (pO m) (fun a => LV.own (f a)) t G1 := tg_same h fun a e μ _ => rfl
theorem tp_one {m : Ma LV} {f : α → LV} {t : Rt α} (h : TG n G m f t G1) : TG n G (pCons m pNil) (fun a => [f a]) t G1 := tg_same h fun a e μ _ => rfl
theorem tp_cons {m : Ma LV} {ms : Ma (List LV)} {f : α → LV} {g : β → List LV} {t : Rt α} {u : Rt β} (h : TG n G m f t G1) (h2 : TG n G1 ms g u G2) : TG n G (pCons m ms) (fun p : α × β => f p.1 :: g p.2) (t.bind fun a => u.bind fun b => .ok (a, b)) G2 :=
  tg_bind h fun a => tg_map h2 fun b e μ _ => rfl
def puts : Ctx → List Nat → List LV → Ctx
  | G, i :: is, l :: ls => puts (put G i l) is ls
  | G, _, _ => G
theorem hs_puts {n : Nat} : ∀ (is : List Nat) (ls : List LV) (G : Ctx) (e : En), Hs n G e → (is.all fun i => Nat.blt i n) = true → Hs n (puts G is ls) (setsE e is ls)
  | [], [], _, _, h, _ => h
  | [], _ :: _, _, _, h, _ => h
  | _ :: _, [], _, _, h, _ => h
  | i :: is, l :: ls, G, e, h, k => by
    rw [List.all_cons] at k
    obtain ⟨k1, k2⟩ := Bool.and_eq_true_iff.mp k
    exact hs_puts is ls _ _ (h.put k1) k2
theorem tn_par {is : List Nat} {m : Ma (List LV)} {f : α → List LV} {t : Rt α} (h : TG n G m f t G1) (hi : (is.all fun i => Nat.blt i n) = true) : TN n G (sPar is m) t fun a => puts G1 is (f a) := tn_same h fun a e μ he => ⟨setsE e is (f a), rfl, hs_puts _ _ _ _ he hi⟩
end
end Ty

set_option maxRecDepth 100000
set_option maxHeartbeats 4000000
/-! Ty6: what may be anything. -/
namespace Ty
open PySem PySem.Spec PyProof.Rows L2 Ev
section
variable {α β γ δ σ : Type} {n : Nat} {G G1 G2 : Ctx} {c : Cd α}
theorem te_bad {m : Ma β} {f : α → β} : TG n G m f (.bad : Rt α) G := fun _ _ _ => trivial
def asI (a : Pv) : Rt Int := match a.1 with
  | .int i => .ok i
  | _ => .bad
def asB (a : Pv) : Rt Bool := match a.1 with
  | .bl i => .ok i
  | _ => .bad
def asS (a : Pv) : Rt Str := match a.1 with
  | .str i => .ok i
  | _ => .bad
def toPvs : List D → Option (List Pv)
  | [] => some []
  | d :: r => match h : d.plain, toPvs r with
    | true, some ps => some (⟨d, h⟩ :: ps)
    | _, _ => none
def asT (a : Pv) : Rt (List Pv) := match a.1 with
  | .tup xs => (match toPvs xs with
    | some ps => .ok ps
    | none => .bad)
  | _ => .bad
def asL (a : Pv) : Rt (List Pv) := match a.1 with
  | .lst xs => (match toPvs xs with
    | some ps => .ok ps
    | none => .bad)
  | _ => .bad
def asTI (a : Pv) : Rt (List Int) := match a.1 with
  | .tup xs => (match intsD xs with
    | some ps => .ok ps
    | none => .bad)
  | _ => .bad
def AsOk (c' : Cd β) (u : Pv → Rt β) : Prop := ∀ a, match u a with | .ok b => cA.d a = c'.d b | .ex _ => False | .bad => True
theorem asI_ok : AsOk cI asI := fun a => by
  obtain ⟨d, h⟩ := a
  unfold asI
  cases d <;> first | rfl | trivial
theorem asB_ok : AsOk cB asB := fun a => by
  obtain ⟨d, h⟩ := a
  unfold asB
  cases d <;> first | rfl | trivial
theorem asS_ok : AsOk cS asS := fun a => by
  obtain ⟨d, h⟩ := a
  unfold asS
  cases d <;> first | rfl | trivial
theorem toPvs_ok : ∀ {xs : List D} {ps : List Pv}, toPvs xs = some ps → xs = ps.map cA.d
  | [], ps, h => by cases h; rfl
  | d :: r, ps, h => by
    rw [toPvs] at h
    split at h
    · rename_i qs h1 h2
      cases h
      rw [List.map_cons, ← toPvs_ok h2]
      rfl
    · cases h
theorem asT_ok : AsOk (cT cA) asT := fun a => by
  obtain ⟨d, h⟩ := a
  unfold asT
  cases d with
  | tup xs =>
    simp only
    cases z : toPvs xs with
    | none => trivial
    | some ps =>
      show D.tup xs = D.tup (ps.map cA.d)
      rw [toPvs_ok z]
  | _ => trivial
theorem asL_ok : AsOk (cL cA) asL := fun a => by
  obtain ⟨d, h⟩ := a
  unfold asL
  cases d with
  | lst xs =>
    simp only
    cases z : toPvs xs with
    | none => trivial
    | some ps =>
      show D.lst xs = D.lst (ps.map cA.d)
      rw [toPvs_ok z]
  | _ => trivial
theorem intsD_inv : ∀ {xs : List D} {ns : List Int}, intsD xs = some ns → xs = ns.map cI.d
  | [], ns, h => by cases h; rfl
  | d :: r, ns, h => by
    cases d with
    | int i =>
      simp only [intsD] at h
      cases z : intsD r with
      | none => rw [z] at h; cases h
      | some ms =>
        rw [z] at h
        cases h
        rw [List.map_cons, ← intsD_inv z]
        rfl
    | _ => cases h
theorem asTI_ok : AsOk (cT cI) asTI := fun a => by
  obtain ⟨d, h⟩ := a
  unfold asTI
  cases d with
  | tup xs =>
    simp only
    cases z : intsD xs with
    | none => trivial
    | some ps =>
      show D.tup xs = D.tup (ps.map cI.d)
      rw [intsD_inv z]
  | _ => trivial
/-! isinstance -/
def tyP : D → Option Tk
  | .non => some .non
  | .bl _ => some .bl
  | .int _ => some .int
  | .str _ => some .str
  | .tup _ => some .tup
  | .ktp _ => some .tup
  | .lst _ => some .lst
  | _ => none
def isiR (a : Pv) (t : Tk) : Rt Bool := match tyP a.1 with
  | some u => .ok (isiK u t)
  | none => .bad
theorem te_isi {m : ME} {t : Rt Pv} {k : Tk} (h : TE n G m cA t G1) : TE n G (mBind (aCons m (aCons (mC (.ty k)) aNil)) (two fIsi)) cB (t.bind fun a => isiR a k) G1 := by
  intro e μ he
  have h := h e μ he
  have key : mBind (aCons m (aCons (mC (.ty k)) aNil)) (two fIsi) e μ = (m e μ).bind fun d e μ => fIsi d (.ty k) e μ := by
    unfold mBind aCons mBind aNil
    cases m e μ <;> rfl
  rw [key]
  cases t with
  | ok a =>
    obtain ⟨e1, h3, h4⟩ := h
    rw [h3, Rt.ok_bind]
    unfold isiR
    cases z : tyP a.1 with
    | none => trivial
    | some u =>
      refine ⟨e1, ?_, h4⟩
      show fIsi a.1 (.ty k) e1 μ = _
      have q : tyE e1 μ a.1 = some u := by
        obtain ⟨d, h⟩ := a
        cases d <;> first | exact z | (cases z; done) | skip
      unfold fIsi
      rw [q]
      rfl
  | ex x =>
    obtain ⟨e1, h3⟩ := h
    rw [h3]
    exact ⟨e1, rfl⟩
  | bad => trivial
/-! sorted(set(..)) -/
def sortSetR (ns : List Int) : Rt (List Int) := match Nat.ble ns.length 60 with
  | true => .ok (setS ns)
  | false => .bad
theorem u_sortSet : UnT (cT cI) (oL cI) fSortSet sortSetR := fun ns => by
  unfold sortSetR
  cases z : Nat.ble ns.length 60 with
  | false => trivial
  | true =>
    intro e μ
    show fSortSet (.tup (ns.map cI.d)) e μ = _
    unfold fSortSet
    simp only [intsD_map, z]
    rfl
end
/-! None or something: as data -/
class CNn {α : Type} [DecidableEq α] (c : Cd α) [CEq c] : Prop where
  l : ∀ a, PyData.eqv .none (CEq.p c a) = false
  r : ∀ a, PyData.eqv (CEq.p c a) .none = false
section
variable {α : Type} [DecidableEq α]
instance : CNn cI := ⟨fun _ => by simp [CEq.p, PyData.eqv], fun _ => by simp [CEq.p, PyData.eqv]⟩
instance : CNn cS := ⟨fun _ => by simp [CEq.p, PyData.eqv], fun _ => by simp [CEq.p, PyData.eqv]⟩
instance (c : Cd α) [CEq c] : CNn (cT c) := ⟨fun _ => by simp [CEq.p, PyData.eqv], fun _ => by simp [CEq.p, PyData.eqv]⟩
instance (q : Cq α) [CEqs q] : CNn (cP q) := ⟨fun _ => by simp [CEq.p, PyData.eqv], fun _ => by simp [CEq.p, PyData.eqv]⟩
instance (c : Cd α) [CEq c] [CNn c] : CEq (cO c) where
  p
    | some a => CEq.p c a
    | none => .none
  pd a := match a with
    | some a => CEq.pd (c := c) a
    | none => rfl
  plain a := match a with
    | some a => CEq.plain (c := c) a
    | none => by simp [PyData.plain]
  dep := CEq.dep c
  dle a := match a with
    | some a => CEq.dle (c := c) a
    | none => by simp [PyData.depth]
  eqv a b := match a, b with
    | some a, some b => by rw [CEq.eqv]; exact decide_eq_decide.mpr (by simp)
    | none, none => by simp [PyData.eqv]
    | some a, none => by rw [CNn.r]; simp
    | none, some a => by rw [CNn.l]; simp
end
end Ty

set_option maxRecDepth 100000
set_option maxHeartbeats 4000000
/-! Ty7: what draws, or changes objects: told by what must hold, for all draws. -/
namespace Ty
open PySem PySem.Spec PyProof.Rows L2 Ev

/-- from the state s: what must hold so that Q of the value and the state behind holds (E: of what is raised) -/
abbrev W (τ α : Type) := τ → (α → τ → Prop) → (Ex → τ → Prop) → Prop
section
variable {τ α β γ δ σ ρ υ : Type}
def W.ok (a : α) : W τ α := fun s Q _ => Q a s
def W.bind (w : W τ α) (v : α → W τ β) : W τ β := fun s Q E => w s (fun a s' => v a s' Q E) E
def W.of (t : Rt α) : W τ α := fun s Q E => match t with
  | .ok a => Q a s
  | .ex x => E x s
  | .bad => False
def W.cond (k : Bool) (a b : W τ α) : W τ α := fun s Q E => match k with
  | true => a s Q E
  | false => b s Q E
theorem W.of_ok (a : α) : (W.of (.ok a) : W τ α) = W.ok a := rfl
theorem W.ok_bind (a : α) (v : α → W τ β) : (W.ok a).bind v = v a := rfl
theorem W.of_bind (t : Rt α) (v : α → Rt β) : (W.of (t.bind v) : W τ β) = (W.of t).bind fun a => W.of (v a) := by
  funext s Q E
  cases t <;> rfl

variable {I : τ → Mu → Prop} {n : Nat} {G G1 G2 G3 : Ctx}
def RW (I : τ → Mu → Prop) (n : Nat) (f : α → β) (G : Ctx) (r : Rs β) (Q : α → τ → Prop) (E : Ex → τ → Prop) : Prop := match r with
  | .ok b e μ => ∃ a s, b = f a ∧ Hs n G e ∧ I s μ ∧ Q a s
  | .ex x e μ => ∃ s, I s μ ∧ E x s
  | .bad => False
def WG (I : τ → Mu → Prop) (n : Nat) (G : Ctx) (m : Ma β) (f : α → β) (w : W τ α) (G' : Ctx) : Prop := ∀ e μ s Q E, Hs n G e → I s μ → w s Q E → RW I n f G' (m e μ) Q E
abbrev WE (I : τ → Mu → Prop) (n : Nat) (G : Ctx) (m : ME) (c : Cd α) (w : W τ α) (G' : Ctx) : Prop := WG I n G m c.d w G'
theorem wg_of {m : Ma β} {f : α → β} {t : Rt α} (h : TG n G m f t G1) : WG I n G m f (W.of t) G1 := by
  intro e μ s Q E he hi hw
  have h := h e μ he
  cases t with
  | ok a =>
    obtain ⟨e', h1, h2⟩ := h
    rw [h1]
    exact ⟨a, s, rfl, h2, hi, hw⟩
  | ex x =>
    obtain ⟨e', h1⟩ := h
    rw [h1]
    exact ⟨s, hi, hw⟩
  | bad => exact hw.elim
theorem wg_bind {m : Ma β} {k : β → Ma δ} {f : α → β} {g : γ → δ} {w : W τ α} {v : α → W τ γ} (h : WG I n G m f w G1) (h2 : ∀ a, WG I n G1 (k (f a)) g (v a) G2) : WG I n G (mBind m k) g (W.bind w v) G2 := by
  intro e μ s Q E he hi hw
  have h := h e μ s _ _ he hi hw
  unfold mBind
  cases z : m e μ with
  | ok b e1 μ1 =>
    rw [z] at h
    obtain ⟨a, s1, rfl, h3, h4, h5⟩ := h
    exact h2 a e1 μ1 s1 Q E h3 h4 h5
  | ex x e1 μ1 =>
    rw [z] at h
    exact h
  | bad =>
    rw [z] at h
    exact h.elim
theorem wg_map {m : Ma β} {k : β → Ma δ} {f : α → β} {g : γ → δ} {w : W τ α} {u : α → γ} (h : WG I n G m f w G1) (h2 : ∀ a e μ, Hs n G1 e → k (f a) e μ = .ok (g (u a)) e μ) : WG I n G (mBind m k) g (W.bind w fun a => W.ok (u a)) G1 :=
  wg_bind h fun a e μ s Q E he hi hw => by
    rw [h2 a e μ he]
    exact ⟨u a, s, rfl, he, hi, hw⟩
theorem wg_same {m : Ma β} {k : β → Ma δ} {f : α → β} {g : α → δ} {w : W τ α} (h : WG I n G m f w G1) (h2 : ∀ a e μ, Hs n G1 e → k (f a) e μ = .ok (g a) e μ) : WG I n G (mBind m k) g w G1 := wg_map (u := fun a => a) h h2
theorem we_op {c1 : Cd α} {c2 : Cd β} {f3 : γ → δ} {f : D → D → Ma δ} {op : α → β → Rt γ} {ma mb : ME} {w1 : W τ α} {w2 : W τ β} (o : OpT c1 c2 f3 f op) (h1 : WE I n G ma c1 w1 G1) (h2 : WE I n G1 mb c2 w2 G2) :
    WG I n G (m2 f ma mb) f3 (W.bind w1 fun a => W.bind w2 fun b => W.of (op a b)) G2 := wg_bind h1 fun a => wg_bind h2 fun b => wg_of (tg_opv o a b)
theorem wg_un {c1 : Cd α} {f3 : γ → δ} {f : D → Ma δ} {op : α → Rt γ} {ma : ME} {w1 : W τ α} (o : UnT c1 f3 f op) (h1 : WE I n G ma c1 w1 G1) : WG I n G (mBind ma f) f3 (W.bind w1 fun a => W.of (op a)) G1 := wg_bind h1 fun a => wg_of fun e μ he => by
  have o := o a
  cases z : op a with
  | ok r =>
    rw [z] at o
    exact ⟨e, o e μ, he⟩
  | ex x =>
    rw [z] at o
    exact o.elim
  | bad => trivial
theorem we_re {m : ME} {c : Cd α} {c' : Cd β} {w : W τ α} (u : α → β) (h : WE I n G m c w G1) (k : ∀ a, c.d a = c'.d (u a)) : WE I n G m c' (W.bind w fun a => W.ok (u a)) G1 := by
  intro e μ s Q E he hi hw
  have h := h e μ s _ _ he hi hw
  cases z : m e μ with
  | ok b e1 μ1 =>
    rw [z] at h
    obtain ⟨a, s1, rfl, h3, h4, h5⟩ := h
    exact ⟨u a, s1, k a, h3, h4, h5⟩
  | ex x e1 μ1 =>
    rw [z] at h
    exact h
  | bad =>
    rw [z] at h
    exact h.elim
theorem we_any {m : ME} {c : Cd α} {w : W τ α} (h : WE I n G m c w G1) : WE I n G m cA (W.bind w fun a => W.ok (anyOf c a)) G1 := we_re (fun a => anyOf c a) h fun _ => rfl
theorem we_some {m : ME} {c : Cd α} {w : W τ α} (h : WE I n G m c w G1) : WE I n G m (cO c) (W.bind w fun a => W.ok (some a)) G1 := we_re (fun a => some a) h fun _ => rfl
theorem we_none {m : ME} {c : Cd α} {w : W τ Unit} (h : WE I n G m cN w G1) : WE I n G m (cO c) (W.bind w fun _ => W.ok none) G1 := we_re (fun _ => none) h fun _ => rfl
abbrev WA (I : τ → Mu → Prop) (n : Nat) (G : Ctx) (m : Ma (List D)) (q : Cq α) (w : W τ α) (G' : Ctx) : Prop := WG I n G m q.d w G'
theorem wa_one {c : Cd α} {m : ME} {w : W τ α} (h : WE I n G m c w G1) : WA I n G (aCons m aNil) (q1 c) w G1 := wg_same h fun _ _ _ _ => rfl
theorem wa_cons {c : Cd α} {q : Cq β} {m : ME} {ms : Ma (List D)} {w : W τ α} {v : W τ β} (h : WE I n G m c w G1) (h2 : WA I n G1 ms q v G2) : WA I n G (aCons m ms) (qc c q) (W.bind w fun a => W.bind v fun b => W.ok (a, b)) G2 :=
  wg_bind h fun a => wg_map h2 fun b e μ _ => rfl
theorem wh_nil {c : Cd α} : WG I n G aNil (fH c) (W.ok []) G := wg_of th_nil
theorem wh_cons {c : Cd α} {m : ME} {ms : Ma (List D)} {w : W τ α} {v : W τ (List α)} (h : WE I n G m c w G1) (h2 : WG I n G1 ms (fH c) v G2) : WG I n G (aCons m ms) (fH c) (W.bind w fun a => W.bind v fun b => W.ok (a :: b)) G2 :=
  wg_bind h fun a => wg_map h2 fun b e μ _ => rfl
/-- a pure operand that is a sequence, then a value -/
theorem ws_op {c : Cd α} {c2 : Cd β} {f3 : γ → δ} {f : D → D → Ma δ} {op : List α → β → Rt γ} {m mb : ME} {t : Rt (List α)} {w2 : W τ β} (o : ∀ xs b, match op xs b with | .ok r => ∀ d e μ, seqE e μ d = some (xs.map c.d) → f d (c2.d b) e μ = .ok (f3 r) e μ | .ex _ => False | .bad => True)
    (h : TS n G m c t G1) (h2 : WE I n G1 mb c2 w2 G1) : WG I n G (m2 f m mb) f3 (W.bind (W.of t) fun xs => W.bind w2 fun b => W.of (op xs b)) G1 := by
  intro e μ s Q E he hi hw
  have h := h e μ he
  show RW I n f3 G1 ((m e μ).bind fun x => mBind mb fun y => f x y) Q E
  cases t with
  | ok xs =>
    obtain ⟨d, e1, h3, h4, h5⟩ := h
    rw [h3]
    have h2 := h2 e1 μ s _ _ h4 hi hw
    show RW I n f3 G1 ((mb e1 μ).bind fun y => f d y) Q E
    cases z : mb e1 μ with
    | ok y e2 μ2 =>
      rw [z] at h2
      obtain ⟨b, s2, rfl, h6, h7, h8⟩ := h2
      have o := o xs b
      show RW I n f3 G1 (f d (c2.d b) e2 μ2) Q E
      cases y : op xs b with
      | ok r =>
        rw [y] at o
        rw [o d e2 μ2 (h5 e2 μ2 h6)]
        replace h8 : W.of (op xs b) s2 Q E := h8
        unfold W.of at h8
        rw [y] at h8
        exact ⟨r, s2, rfl, h6, h7, h8⟩
      | ex x =>
        rw [y] at o
        exact o.elim
      | bad =>
        replace h8 : W.of (op xs b) s2 Q E := h8
        unfold W.of at h8
        rw [y] at h8
        exact h8.elim
    | ex x e2 μ2 =>
      rw [z] at h2
      exact h2
    | bad =>
      rw [z] at h2
      exact h2.elim
  | ex x =>
    obtain ⟨e1, h3⟩ := h
    rw [h3]
    exact ⟨s, hi, hw⟩
  | bad => exact hw.elim
theorem we_ix {c : Cd α} {m mb : ME} {t : Rt (List α)} {w2 : W τ Int} (h : TS n G m c t G1) (h2 : WE I n G1 mb cI w2 G1) : WE I n G (m2 fIx m mb) c (W.bind (W.of t) fun xs => W.bind w2 fun b => W.of (ixR xs b)) G1 := ws_op (fun xs b => by
  unfold ixR
  cases z : atI xs b with
  | none => trivial
  | some a =>
      intro d e μ hs
      have hn : ∀ z, d ≠ .str z := fun z hz => by subst hz; simp only [seqE, contE, Option.bind_none] at hs; cases hs
      have key : fIx d (.int b) e μ = match seqE e μ d with
        | some xs => (match atI xs b with
          | some d => .ok d e μ
          | none => .bad)
        | none => .bad := by
        cases d with
        | str z => exact absurd rfl (hn z)
        | _ => rfl
      show fIx d (.int b) e μ = _
      rw [key, hs]
      simp only [atI_map, z, Option.map_some]) h h2
theorem wg_one {f3 : γ → δ} {f : D → Ma δ} {m : ME} {w : W τ γ} (h : WG I n G (mBind m f) f3 w G1) : WG I n G (mBind (aCons m aNil) (one f)) f3 w G1 := by
  intro e μ s Q E he hi hw
  have h := h e μ s Q E he hi hw
  have key : mBind (aCons m aNil) (one f) e μ = mBind m f e μ := by
    unfold mBind aCons mBind aNil
    cases m e μ <;> rfl
  rw [key]
  exact h
theorem wg_two {f3 : γ → δ} {f : D → D → Ma δ} {ma mb : ME} {w : W τ γ} (h : WG I n G (m2 f ma mb) f3 w G1) : WG I n G (mBind (aCons ma (aCons mb aNil)) (two f)) f3 w G1 := by
  intro e μ s Q E he hi hw
  have h := h e μ s Q E he hi hw
  have key : mBind (aCons ma (aCons mb aNil)) (two f) e μ = m2 f ma mb e μ := by
    simp only [m2, mBind, aCons, aNil]
    cases z : ma e μ with
    | ok a e1 μ1 =>
      simp only [Rs.bind, mBind]
      cases mb e1 μ1 <;> rfl
    | ex x e1 μ1 => rfl
    | bad => rfl
  rw [key]
  exact h
theorem ww_test {m : ME} {w : W τ Bool} (h : WE I n G m cB w G1) : WG I n G (mTest m) (fun b : Bool => b) w G1 := wg_same h fun _ _ _ _ => rfl
theorem wg_if {mc : Ma Bool} {ma mb : Ma δ} {f : α → δ} {wc : W τ Bool} {wa wb : W τ α} (h : WG I n G mc (fun b : Bool => b) wc G1) (ha : WG I n G1 ma f wa G2) (hb : WG I n G1 mb f wb G2) : WG I n G (mIfB mc ma mb) f (W.bind wc fun k => W.cond k wa wb) G2 :=
  wg_bind h fun k => by cases k; exact hb; exact ha
theorem ww_and {ma mb : Ma Bool} {wa wb : W τ Bool} (ha : WG I n G ma (fun b : Bool => b) wa G1) (hb : WG I n G1 mb (fun b : Bool => b) wb G1) : WG I n G (mAnd ma mb) (fun b : Bool => b) (W.bind wa fun k => W.cond k wb (W.ok false)) G1 := wg_if ha hb (wg_of (tg_ok fun _ _ _ => rfl))
theorem ww_or {ma mb : Ma Bool} {wa wb : W τ Bool} (ha : WG I n G ma (fun b : Bool => b) wa G1) (hb : WG I n G1 mb (fun b : Bool => b) wb G1) : WG I n G (mOr ma mb) (fun b : Bool => b) (W.bind wa fun k => W.cond k (W.ok true) wb) G1 := wg_if ha (wg_of (tg_ok fun _ _ _ => rfl)) hb
theorem ww_not {ma : Ma Bool} {wa : W τ Bool} (ha : WG I n G ma (fun b : Bool => b) wa G1) : WG I n G (mNot ma) (fun b : Bool => b) (W.bind wa fun k => W.ok (!k)) G1 := wg_map ha fun _ _ _ _ => rfl
theorem we_and {ma mb : ME} {wa wb : W τ Bool} (ha : WE I n G ma cB wa G1) (hb : WE I n G1 mb cB wb G1) : WE I n G (vAnd ma mb) cB (W.bind wa fun k => W.cond k wb (W.ok false)) G1 := wg_if (ww_test ha) hb (wg_of (tg_ok fun _ _ _ => rfl))
theorem we_or {ma mb : ME} {wa wb : W τ Bool} (ha : WE I n G ma cB wa G1) (hb : WE I n G1 mb cB wb G1) : WE I n G (vOr ma mb) cB (W.bind wa fun k => W.cond k (W.ok true) wb) G1 := wg_if (ww_test ha) (wg_of (tg_ok fun _ _ _ => rfl)) hb
theorem we_not {ma : ME} {wa : W τ Bool} (ha : WE I n G ma cB wa G1) : WE I n G (vNot ma) cB (W.bind wa fun k => W.ok (!k)) G1 := wg_map (ww_test ha) fun _ _ _ _ => rfl
theorem we_tupP {q : Cq α} {ms : Ma (List D)} {w : W τ α} (h : WA I n G ms q w G1) (hl : lineB q.n = true) : WE I n G (mTup ms) (cP q) w G1 := wg_same h fun a e μ _ => by
  simp only [q.len, hl, q.pl, Bool.and_self]
  rfl
theorem wg_lstP {q : Cq α} {ms : Ma (List D)} {w : W τ α} (h : WA I n G ms q w G1) (hl : lineB q.n = true) : WG I n G (mLst ms) (oPL q) w G1 := wg_same h fun a e μ _ => by
  simp only [q.len, hl, q.pl, Bool.and_self]
  rfl
theorem wg_lineR {c : Cd α} {m : Ma (List D)} {k : List D → Ma δ} {g : List α → δ} {w : W τ (List α)} (h : WG I n G m (fH c) w G1) (h2 : ∀ xs, lineB xs.length = true → ∀ e μ, k (xs.map c.d) e μ = .ok (g xs) e μ) : WG I n G (mBind m k) g (W.bind w fun xs => W.of (lineR xs)) G1 :=
  wg_bind h fun xs => wg_of fun e μ he => by
    unfold lineR
    cases z : lineB xs.length with
    | true => exact ⟨e, h2 xs z e μ, he⟩
    | false => trivial
theorem we_tupT {c : Cd α} {ms : Ma (List D)} {w : W τ (List α)} (h : WG I n G ms (fH c) w G1) : WE I n G (mTup ms) (cT c) (W.bind w fun xs => W.of (lineR xs)) G1 := wg_lineR h fun xs hl e μ => by
  simp only [List.length_map, hl, plains_map, Bool.and_self]
  rfl
theorem wg_lstL {c : Cd α} {ms : Ma (List D)} {w : W τ (List α)} (h : WG I n G ms (fH c) w G1) : WG I n G (mLst ms) (oL c) (W.bind w fun xs => W.of (lineR xs)) G1 := wg_lineR h fun xs hl e μ => by
  simp only [List.length_map, hl, plains_map, Bool.and_self]
  rfl
theorem we_valL {c : Cd α} {m : Ma O} {w : W τ (List α)} (h : WG I n G m (oL c) w G1) : WE I n G (mVal m) (cL c) w G1 := wg_same h fun _ _ _ _ => rfl
theorem we_valP {q : Cq α} {m : Ma O} {w : W τ α} (h : WG I n G m (oPL q) w G1) : WE I n G (mVal m) (cPL q) w G1 := wg_same h fun _ _ _ _ => rfl
theorem wi_T {c : Cd α} {m : ME} {w : W τ (List α)} (h : WE I n G m (cT c) w G1) : WG I n G (mBind m frzSeq) (fH c) w G1 := wg_same h fun _ _ _ _ => rfl
theorem wi_L {c : Cd α} {m : ME} {w : W τ (List α)} (h : WE I n G m (cL c) w G1) : WG I n G (mBind m frzSeq) (fH c) w G1 := wg_same h fun _ _ _ _ => rfl
/-! ### comprehensions whose elements draw -/
def lcW : List α → (α → Rt Bool) → (α → W τ β) → W τ (List β)
  | [], _, _ => W.ok []
  | x :: r, T, F => W.bind (W.of (T x)) fun k => W.cond k (W.bind (F x) fun y => W.bind (lcW r T F) fun ys => W.ok (y :: ys)) (lcW r T F)
def noE (w : W τ α) : W τ α := fun s Q _ => w s Q fun _ _ => False
theorem lcLW_ok {c : Cd α} {c2 : Cd β} {vs : List Nat} {g : Tg} {t : Ma Bool} {m : ME} {T : α → Rt Bool} {F : α → W τ β} {Gx : α → Ctx} {G0 : Ctx} (hg : ∀ x, TGc n vs (dels G0 vs) g (c.d x) (Gx x)) (ht : ∀ x, TT n (Gx x) t (T x) (Gx x)) (hm : ∀ x, WE I n (Gx x) m c2 (F x) (Gx x)) :
    ∀ (xs : List α) (e : En) (μ : Mu) (s : τ) (Q : List β → τ → Prop), Hs n (dels G0 vs) e → I s μ → lcW xs T F s Q (fun _ _ => False) → ∃ ys e' μ' s', lcL vs g t m (xs.map c.d) e μ = .ok (ys.map c2.d) e' μ' ∧ Hs n (dels G0 vs) e' ∧ I s' μ' ∧ Q ys s'
  | [], e, μ, s, Q, he, hi, hw => ⟨[], e, μ, s, rfl, he, hi, hw⟩
  | x :: r, e, μ, s, Q, he, hi, hw => by
    obtain ⟨e1, a1, a2⟩ := (hg x).run e μ he
    have b := ht x e1 μ a2
    have bk : ∀ e', Hs n (Gx x) e' → Hs n (dels G0 vs) (wipeE e' vs) := fun e' h => ((h.ent ((hg x).out)).wipe (vs := vs)).ent (Ent.trans ent_dels2 ent_dels2)
    unfold lcW W.bind W.of at hw
    cases hT : T x with
    | bad => rw [hT] at hw; exact hw.elim
    | ex z => rw [hT] at hw; exact hw.elim
    | ok k =>
      rw [hT] at hw b
      obtain ⟨e2, b1, b2⟩ := b
      cases k with
      | false =>
        obtain ⟨ys, e', μ', s', i1, i2⟩ := lcLW_ok hg ht hm r (wipeE e2 vs) μ s Q (bk e2 b2) hi hw
        refine ⟨ys, e', μ', s', ?_, i2⟩
        simp only [List.map_cons, lcL, a1, b1]
        exact i1
      | true =>
        have d := hm x e2 μ s _ _ b2 hi hw
        cases z : m e2 μ with
        | bad => rw [z] at d; exact d.elim
        | ex q e3 μ3 =>
          rw [z] at d
          obtain ⟨_, _, d⟩ := d
          exact d.elim
        | ok y e3 μ3 =>
          rw [z] at d
          obtain ⟨a, s3, rfl, d1, d2, d3⟩ := d
          obtain ⟨ys, e', μ', s', i1, i2, i3, i4⟩ := lcLW_ok hg ht hm r (wipeE e3 vs) μ3 s3 _ (bk e3 d1) d2 d3
          refine ⟨a :: ys, e', μ', s', ?_, i2, i3, i4⟩
          simp only [List.map_cons, lcL, a1, b1, z, c2.pl, i1]
theorem wg_lc {mi : Ma (List D)} {c : Cd α} {c2 : Cd β} {vs : List Nat} {g : Tg} {t : Ma Bool} {m : ME} {wi : W τ (List α)} {T : α → Rt Bool} {F : α → W τ β} {Gx : α → Ctx} (hi : WG I n G mi (fH c) wi G1) (hk : okR G1 vs = true)
    (hg : ∀ x, TGc n vs (dels G1 vs) g (c.d x) (Gx x)) (ht : ∀ x, TT n (Gx x) t (T x) (Gx x)) (hm : ∀ x, WE I n (Gx x) m c2 (F x) (Gx x)) : WG I n G (mLc mi vs g t m) (oL c2) (W.bind wi fun xs => W.bind (noE (lcW xs T F)) fun ys => W.of (lineR ys)) G1 :=
  wg_bind hi fun xs e μ s Q E he hi hw => by
    have hl := fun (ys : List β) (e' : En) (s' : τ) (μ' : Mu) (h2 : Hs n (dels G1 vs) e') => lineR_ok (δ := Unit) (c := c2) (xs := ys) (μ := μ') hk he h2
    have hw' : lcW xs T F s (fun ys s' => W.of (lineR ys) s' Q E) (fun _ _ => False) := hw
    obtain ⟨ys, e', μ', s', h1, h2, h3, h4⟩ := lcLW_ok (G0 := G1) hg ht hm xs (wipeE e vs) μ s _ he.wipe hi hw'
    show RW I n (oL c2) G1 (lcEnd e vs (lcL vs g t m (xs.map c.d) (wipeE e vs) μ)) Q E
    rw [h1]
    have k := hl ys e' s' μ' h2
    unfold W.of at h4
    cases z : lineR ys with
    | ok zs =>
      rw [z] at k h4
      obtain ⟨e2, k1, k2⟩ := k
      rw [k1]
      exact ⟨zs, s', rfl, k2, h3, h4⟩
    | ex x =>
      unfold lineR at z
      cases q : lineB ys.length with
      | true => rw [q] at z; cases z
      | false => rw [q] at z; cases z
    | bad => rw [z] at h4; exact h4.elim
/-! ### statements -/
def RWN (I : τ → Mu → Prop) (n : Nat) (r : Rst) (G' : σ → Ctx) (Q : σ → τ → Prop) (E : Ex → τ → Prop) : Prop := match r with
  | .nx e μ => ∃ a s, Hs n (G' a) e ∧ I s μ ∧ Q a s
  | .ex x e μ => ∃ s, I s μ ∧ E x s
  | _ => False
def RWB (I : τ → Mu → Prop) (r : Rst) (c : Cd ρ) (Q : ρ → τ → Prop) (E : Ex → τ → Prop) : Prop := match r with
  | .rt d e μ => ∃ a s, d = c.d a ∧ I s μ ∧ Q a s
  | .ex x e μ => ∃ s, I s μ ∧ E x s
  | _ => False
def RWO (I : τ → Mu → Prop) (n : Nat) (r : Rst) (c : Cd ρ) (G' : σ → Ctx) (Q : Ou σ ρ → τ → Prop) (E : Ex → τ → Prop) : Prop := match r with
  | .nx e μ => ∃ a s, Hs n (G' a) e ∧ I s μ ∧ Q (.nx a) s
  | .rt d e μ => ∃ a s, d = c.d a ∧ I s μ ∧ Q (.rt a) s
  | .ex x e μ => ∃ s, I s μ ∧ E x s
  | _ => False
def WN (I : τ → Mu → Prop) (n : Nat) (G : Ctx) (b : MS) (w : W τ σ) (G' : σ → Ctx) : Prop := ∀ e μ s Q E, Hs n G e → I s μ → w s Q E → RWN I n (b e μ) G' Q E
def WB (I : τ → Mu → Prop) (n : Nat) (G : Ctx) (b : MS) (c : Cd ρ) (w : W τ ρ) : Prop := ∀ e μ s Q E, Hs n G e → I s μ → w s Q E → RWB I (b e μ) c Q E
def WO (I : τ → Mu → Prop) (n : Nat) (G : Ctx) (b : MS) (c : Cd ρ) (w : W τ (Ou σ ρ)) (G' : σ → Ctx) : Prop := ∀ e μ s Q E, Hs n G e → I s μ → w s Q E → RWO I n (b e μ) c G' Q E
variable {cr : Cd ρ}
theorem wn_of {b : MS} {t : Rt σ} {Gs : σ → Ctx} (h : TN n G b t Gs) : WN I n G b (W.of t) Gs := by
  intro e μ s Q E he hi hw
  have h := h e μ he
  cases t with
  | ok a =>
    obtain ⟨e', h1, h2⟩ := h
    rw [h1]
    exact ⟨a, s, h2, hi, hw⟩
  | ex x =>
    obtain ⟨e', h1⟩ := h
    rw [h1]
    exact ⟨s, hi, hw⟩
  | bad => exact hw.elim
theorem wb_of {b : MS} {t : Rt ρ} (h : TB n G b cr t) : WB I n G b cr (W.of t) := by
  intro e μ s Q E he hi hw
  have h := h e μ he
  cases t with
  | ok a =>
    obtain ⟨e', h1⟩ := h
    rw [h1]
    exact ⟨a, s, rfl, hi, hw⟩
  | ex x =>
    obtain ⟨e', h1⟩ := h
    rw [h1]
    exact ⟨s, hi, hw⟩
  | bad => exact hw.elim
theorem wo_of {b : MS} {t : Rt (Ou σ ρ)} {Gs : σ → Ctx} (h : TO n G b cr t Gs) : WO I n G b cr (W.of t) Gs := by
  intro e μ s Q E he hi hw
  have h := h e μ he
  cases t with
  | ok a =>
    cases a with
    | nx a =>
      obtain ⟨e', h1, h2⟩ := h
      rw [h1]
      exact ⟨a, s, h2, hi, hw⟩
    | rt a =>
      obtain ⟨e', h1⟩ := h
      rw [h1]
      exact ⟨a, s, rfl, hi, hw⟩
  | ex x =>
    obtain ⟨e', h1⟩ := h
    rw [h1]
    exact ⟨s, hi, hw⟩
  | bad => exact hw.elim
theorem wn_exp {m : Ma β} {k : β → MS} {f : α → β} {w : W τ α} {v : α → W τ σ} {Gs : σ → Ctx} (h : WG I n G m f w G1) (h2 : ∀ a, WN I n G1 (k (f a)) (v a) Gs) : WN I n G (sExp m k) (W.bind w v) Gs := by
  intro e μ s Q E he hi hw
  have h := h e μ s _ _ he hi hw
  unfold sExp
  cases z : m e μ with
  | ok b e1 μ1 =>
    rw [z] at h
    obtain ⟨a, s1, rfl, h3, h4, h5⟩ := h
    exact h2 a e1 μ1 s1 Q E h3 h4 h5
  | ex x e1 μ1 =>
    rw [z] at h
    exact h
  | bad =>
    rw [z] at h
    exact h.elim
theorem wb_exp {m : Ma β} {k : β → MS} {f : α → β} {w : W τ α} {v : α → W τ ρ} (h : WG I n G m f w G1) (h2 : ∀ a, WB I n G1 (k (f a)) cr (v a)) : WB I n G (sExp m k) cr (W.bind w v) := by
  intro e μ s Q E he hi hw
  have h := h e μ s _ _ he hi hw
  unfold sExp
  cases z : m e μ with
  | ok b e1 μ1 =>
    rw [z] at h
    obtain ⟨a, s1, rfl, h3, h4, h5⟩ := h
    exact h2 a e1 μ1 s1 Q E h3 h4 h5
  | ex x e1 μ1 =>
    rw [z] at h
    exact h
  | bad =>
    rw [z] at h
    exact h.elim
theorem wo_exp {m : Ma β} {k : β → MS} {f : α → β} {w : W τ α} {v : α → W τ (Ou σ ρ)} {Gs : σ → Ctx} (h : WG I n G m f w G1) (h2 : ∀ a, WO I n G1 (k (f a)) cr (v a) Gs) : WO I n G (sExp m k) cr (W.bind w v) Gs := by
  intro e μ s Q E he hi hw
  have h := h e μ s _ _ he hi hw
  unfold sExp
  cases z : m e μ with
  | ok b e1 μ1 =>
    rw [z] at h
    obtain ⟨a, s1, rfl, h3, h4, h5⟩ := h
    exact h2 a e1 μ1 s1 Q E h3 h4 h5
  | ex x e1 μ1 =>
    rw [z] at h
    exact h
  | bad =>
    rw [z] at h
    exact h.elim
theorem wn_same {m : Ma β} {k : β → MS} {f : α → β} {w : W τ α} {Gs : α → Ctx} (h : WG I n G m f w G1) (h2 : ∀ a e μ, Hs n G1 e → ∃ e', k (f a) e μ = .nx e' μ ∧ Hs n (Gs a) e') : WN I n G (sExp m k) w Gs :=
  (wn_exp (v := fun a => W.ok a) h fun a e μ s Q E he hi hw => by
    obtain ⟨e', h3, h4⟩ := h2 a e μ he
    rw [h3]
    exact ⟨a, s, h4, hi, hw⟩ : WN I n G (sExp m k) (W.bind w fun a => W.ok a) Gs)
theorem wn_set {c : Cd α} {m : ME} {i : Nat} {w : W τ α} (h : WE I n G m c w G1) (hi : Nat.blt i n = true) : WN I n G (sSet i m) w fun a => put G1 i (.val (c.d a)) := wn_same h fun a e μ he => by
  refine ⟨e.set i (.val (c.d a)), ?_, he.put hi⟩
  simp only [c.pl]
theorem wn_own {m : Ma O} {f : α → O} {i : Nat} {w : W τ α} (h : WG I n G m f w G1) (hi : Nat.blt i n = true) : WN I n G (sOwn i m) w fun a => put G1 i (.own (f a)) := wn_same h fun a e μ he =>
  ⟨e.set i (.own (f a)), rfl, he.put hi⟩
theorem wn_do {c : Cd α} {m : ME} {w : W τ α} (h : WE I n G m c w G1) : WN I n G (sDo m) (W.bind w fun _ => W.ok ()) fun _ => G1 := wn_exp h fun a e μ s Q E he hi hw => ⟨(), s, he, hi, hw⟩
theorem wn_asg {c : Cd α} {m : ME} {g : Tg} {w : W τ α} {Gs : α → Ctx} (h : WE I n G m c w G1) (hg : ∀ a, TGt n G1 g (c.d a) (Gs a)) : WN I n G (sAsg m g) w Gs := wn_same h fun a e μ he => by
  obtain ⟨e1, h1, h2⟩ := hg a e μ he
  refine ⟨e1, ?_, h2⟩
  simp only [h1]
theorem wn_seq {a b : MS} {w : W τ σ} {v : σ → W τ υ} {Gs : σ → Ctx} {Gt : υ → Ctx} (h : WN I n G a w Gs) (h2 : ∀ s, WN I n (Gs s) b (v s) Gt) : WN I n G (sSeq a b) (W.bind w v) Gt := by
  intro e μ s Q E he hi hw
  have h := h e μ s _ _ he hi hw
  unfold sSeq
  cases z : a e μ with
  | nx e1 μ1 =>
    rw [z] at h
    obtain ⟨a, s1, h3, h4, h5⟩ := h
    exact h2 a e1 μ1 s1 Q E h3 h4 h5
  | ex x e1 μ1 => rw [z] at h; exact h
  | rt d e1 μ1 => rw [z] at h; exact h.elim
  | bk e1 μ1 => rw [z] at h; exact h.elim
  | ct e1 μ1 => rw [z] at h; exact h.elim
  | bad => rw [z] at h; exact h.elim
theorem wb_seq {a b : MS} {w : W τ σ} {v : σ → W τ ρ} {Gs : σ → Ctx} (h : WN I n G a w Gs) (h2 : ∀ s, WB I n (Gs s) b cr (v s)) : WB I n G (sSeq a b) cr (W.bind w v) := by
  intro e μ s Q E he hi hw
  have h := h e μ s _ _ he hi hw
  unfold sSeq
  cases z : a e μ with
  | nx e1 μ1 =>
    rw [z] at h
    obtain ⟨a, s1, h3, h4, h5⟩ := h
    exact h2 a e1 μ1 s1 Q E h3 h4 h5
  | ex x e1 μ1 => rw [z] at h; exact h
  | rt d e1 μ1 => rw [z] at h; exact h.elim
  | bk e1 μ1 => rw [z] at h; exact h.elim
  | ct e1 μ1 => rw [z] at h; exact h.elim
  | bad => rw [z] at h; exact h.elim
theorem wo_seq {a b : MS} {w : W τ σ} {v : σ → W τ (Ou υ ρ)} {Gs : σ → Ctx} {Gt : υ → Ctx} (h : WN I n G a w Gs) (h2 : ∀ s, WO I n (Gs s) b cr (v s) Gt) : WO I n G (sSeq a b) cr (W.bind w v) Gt := by
  intro e μ s Q E he hi hw
  have h := h e μ s _ _ he hi hw
  unfold sSeq
  cases z : a e μ with
  | nx e1 μ1 =>
    rw [z] at h
    obtain ⟨a, s1, h3, h4, h5⟩ := h
    exact h2 a e1 μ1 s1 Q E h3 h4 h5
  | ex x e1 μ1 => rw [z] at h; exact h
  | rt d e1 μ1 => rw [z] at h; exact h.elim
  | bk e1 μ1 => rw [z] at h; exact h.elim
  | ct e1 μ1 => rw [z] at h; exact h.elim
  | bad => rw [z] at h; exact h.elim
theorem wn_to {a : MS} {w : W τ σ} {Gs : σ → Ctx} {Gt : υ → Ctx} (f : σ → υ) (h : WN I n G a w Gs) (k : ∀ s, Looks (Gs s) (Gt (f s))) : WN I n G a (W.bind w fun s => W.ok (f s)) Gt := by
  intro e μ s Q E he hi hw
  have h := h e μ s _ _ he hi hw
  cases z : a e μ with
  | nx e1 μ1 =>
    rw [z] at h
    obtain ⟨b, s1, h3, h4, h5⟩ := h
    exact ⟨f b, s1, h3.ent (k b).ent, h4, h5⟩
  | ex x e1 μ1 => rw [z] at h; exact h
  | rt d e1 μ1 => rw [z] at h; exact h.elim
  | bk e1 μ1 => rw [z] at h; exact h.elim
  | ct e1 μ1 => rw [z] at h; exact h.elim
  | bad => rw [z] at h; exact h.elim
theorem wo_n {a : MS} {w : W τ σ} {Gs : σ → Ctx} (h : WN I n G a w Gs) : WO I n G a cr (W.bind w fun s => W.ok (.nx s)) Gs := by
  intro e μ s Q E he hi hw
  have h := h e μ s _ _ he hi hw
  cases z : a e μ with
  | nx e1 μ1 => rw [z] at h; exact h
  | ex x e1 μ1 => rw [z] at h; exact h
  | rt d e1 μ1 => rw [z] at h; exact h.elim
  | bk e1 μ1 => rw [z] at h; exact h.elim
  | ct e1 μ1 => rw [z] at h; exact h.elim
  | bad => rw [z] at h; exact h.elim
theorem wo_b {a : MS} {w : W τ ρ} {Gs : σ → Ctx} (h : WB I n G a cr w) : WO I n G a cr (W.bind w fun s => W.ok (.rt s)) Gs := by
  intro e μ s Q E he hi hw
  have h := h e μ s _ _ he hi hw
  cases z : a e μ with
  | rt d e1 μ1 => rw [z] at h; exact h
  | ex x e1 μ1 => rw [z] at h; exact h
  | nx e1 μ1 => rw [z] at h; exact h.elim
  | bk e1 μ1 => rw [z] at h; exact h.elim
  | ct e1 μ1 => rw [z] at h; exact h.elim
  | bad => rw [z] at h; exact h.elim
def ouW (r : Ou σ ρ) (v : σ → W τ (Ou υ ρ)) : W τ (Ou υ ρ) := match r with
  | .nx s => v s
  | .rt r => W.ok (.rt r)
def ouWB (r : Ou σ ρ) (v : σ → W τ ρ) : W τ ρ := match r with
  | .nx s => v s
  | .rt r => W.ok r
theorem wo_oseq {a b : MS} {w : W τ (Ou σ ρ)} {v : σ → W τ (Ou υ ρ)} {Gs : σ → Ctx} {Gt : υ → Ctx} (h : WO I n G a cr w Gs) (h2 : ∀ s, WO I n (Gs s) b cr (v s) Gt) : WO I n G (sSeq a b) cr (W.bind w fun r => ouW r v) Gt := by
  intro e μ s Q E he hi hw
  have h := h e μ s _ _ he hi hw
  unfold sSeq
  cases z : a e μ with
  | nx e1 μ1 =>
    rw [z] at h
    obtain ⟨a, s1, h3, h4, h5⟩ := h
    exact h2 a e1 μ1 s1 Q E h3 h4 h5
  | rt d e1 μ1 => rw [z] at h; exact h
  | ex x e1 μ1 => rw [z] at h; exact h
  | bk e1 μ1 => rw [z] at h; exact h.elim
  | ct e1 μ1 => rw [z] at h; exact h.elim
  | bad => rw [z] at h; exact h.elim
theorem wb_oseq {a b : MS} {w : W τ (Ou σ ρ)} {v : σ → W τ ρ} {Gs : σ → Ctx} (h : WO I n G a cr w Gs) (h2 : ∀ s, WB I n (Gs s) b cr (v s)) : WB I n G (sSeq a b) cr (W.bind w fun r => ouWB r v) := by
  intro e μ s Q E he hi hw
  have h := h e μ s _ _ he hi hw
  unfold sSeq
  cases z : a e μ with
  | nx e1 μ1 =>
    rw [z] at h
    obtain ⟨a, s1, h3, h4, h5⟩ := h
    exact h2 a e1 μ1 s1 Q E h3 h4 h5
  | rt d e1 μ1 => rw [z] at h; exact h
  | ex x e1 μ1 => rw [z] at h; exact h
  | bk e1 μ1 => rw [z] at h; exact h.elim
  | ct e1 μ1 => rw [z] at h; exact h.elim
  | bad => rw [z] at h; exact h.elim
theorem wb_ret {m : ME} {w : W τ ρ} (h : WE I n G m cr w G1) : WB I n G (sRet m) cr w := by
  have := wb_exp (k := fun d e μ => match d.plain with
    | true => .rt d e μ
    | false => .bad) (v := fun a => W.ok a) (cr := cr) h fun a e μ s Q E he hi hw => by
      simp only [cr.pl]
      exact ⟨a, s, rfl, hi, hw⟩
  exact this
theorem wn_if {mc : Ma Bool} {a b : MS} {wc : W τ Bool} {wa wb : W τ σ} {Gs : σ → Ctx} (h : WG I n G mc (fun b : Bool => b) wc G1) (ha : WN I n G1 a wa Gs) (hb : WN I n G1 b wb Gs) : WN I n G (sIf mc a b) (W.bind wc fun k => W.cond k wa wb) Gs := wn_exp h fun k => by
  cases k
  · exact hb
  · exact ha
theorem wb_if {mc : Ma Bool} {a b : MS} {wc : W τ Bool} {wa wb : W τ ρ} (h : WG I n G mc (fun b : Bool => b) wc G1) (ha : WB I n G1 a cr wa) (hb : WB I n G1 b cr wb) : WB I n G (sIf mc a b) cr (W.bind wc fun k => W.cond k wa wb) := wb_exp h fun k => by
  cases k
  · exact hb
  · exact ha
theorem wo_if {mc : Ma Bool} {a b : MS} {wc : W τ Bool} {wa wb : W τ (Ou σ ρ)} {Gs : σ → Ctx} (h : WG I n G mc (fun b : Bool => b) wc G1) (ha : WO I n G1 a cr wa Gs) (hb : WO I n G1 b cr wb Gs) : WO I n G (sIf mc a b) cr (W.bind wc fun k => W.cond k wa wb) Gs := wo_exp h fun k => by
  cases k
  · exact hb
  · exact ha
theorem wb_guard {mc : Ma Bool} {a r : MS} {wc : W τ Bool} {wa wr : W τ ρ} (h : WG I n G mc (fun b : Bool => b) wc G1) (ha : WB I n G1 a cr wa) (hr : WB I n G1 r cr wr) : WB I n G (sSeq (sIf mc a sSkip) r) cr (W.bind wc fun k => W.cond k wa wr) := by
  intro e μ s Q E he hi hw
  have h := h e μ s _ _ he hi hw
  unfold sSeq sIf sExp
  cases z : mc e μ with
  | ok b e1 μ1 =>
    rw [z] at h
    obtain ⟨k, s1, rfl, h3, h4, h5⟩ := h
    cases b with
    | false => exact hr e1 μ1 s1 Q E h3 h4 h5
    | true =>
      have ha := ha e1 μ1 s1 Q E h3 h4 h5
      simp only
      cases y : a e1 μ1 with
      | rt d e2 μ2 => rw [y] at ha; exact ha
      | ex x e2 μ2 => rw [y] at ha; exact ha
      | nx e2 μ2 => rw [y] at ha; exact ha.elim
      | bk e2 μ2 => rw [y] at ha; exact ha.elim
      | ct e2 μ2 => rw [y] at ha; exact ha.elim
      | bad => rw [y] at ha; exact ha.elim
  | ex x e1 μ1 =>
    rw [z] at h
    exact h
  | bad =>
    rw [z] at h
    exact h.elim
theorem wn_bad {a : MS} {Gs : σ → Ctx} : WN I n G a (W.of .bad : W τ σ) Gs := fun _ _ _ _ _ _ _ h => h.elim
theorem wb_bad {a : MS} : WB I n G a cr (W.of .bad) := fun _ _ _ _ _ _ _ h => h.elim
/-! ### loops -/
def forW : List α → σ → (σ → α → W τ σ) → W τ σ
  | [], a, _ => W.ok a
  | x :: r, a, f => W.bind (f a x) fun b => forW r b f
def forOW : List α → σ → (σ → α → W τ (Ou σ ρ)) → W τ (Ou σ ρ)
  | [], a, _ => W.ok (.nx a)
  | x :: r, a, f => W.bind (f a x) fun o => ouW o fun b => forOW r b f
theorem wn_for {c : Cd α} {mi : Ma (List D)} {g : Tg} {b : MS} {wi : W τ (List α)} {f : σ → α → W τ σ} {Gs : σ → Ctx} {Gx : σ → α → Ctx} {s0 : σ} (hi : WG I n G mi (fH c) wi G1) (hs : Looks G1 (Gs s0)) (hg : ∀ s x, TGt n (Gs s) g (c.d x) (Gx s x)) (hb : ∀ s x, WN I n (Gx s x) b (f s x) Gs) :
    WN I n G (sFor mi g b) (W.bind wi fun xs => forW xs s0 f) Gs := wn_exp hi fun xs => by
  have key : ∀ (xs : List α) (a : σ), WN I n (Gs a) (forL g b (xs.map c.d)) (forW xs a f) Gs := by
    intro xs
    induction xs with
    | nil => exact fun a e μ s Q E he hi hw => ⟨a, s, he, hi, hw⟩
    | cons x r ih =>
      intro a e μ s Q E he hi hw
      obtain ⟨e1, h1, h2⟩ := hg a x e μ he
      have h3 := hb a x e1 μ s _ _ h2 hi hw
      simp only [List.map_cons, forL, h1]
      cases z : b e1 μ with
      | nx e2 μ2 =>
        rw [z] at h3
        obtain ⟨a2, s2, h4, h5, h6⟩ := h3
        exact ih a2 e2 μ2 s2 Q E h4 h5 h6
      | ex x e2 μ2 => rw [z] at h3; exact h3
      | rt d e2 μ2 => rw [z] at h3; exact h3.elim
      | bk e2 μ2 => rw [z] at h3; exact h3.elim
      | ct e2 μ2 => rw [z] at h3; exact h3.elim
      | bad => rw [z] at h3; exact h3.elim
  exact fun e μ s Q E he => key xs s0 e μ s Q E (he.ent hs.ent)
theorem wo_for {c : Cd α} {mi : Ma (List D)} {g : Tg} {b : MS} {wi : W τ (List α)} {f : σ → α → W τ (Ou σ ρ)} {Gs : σ → Ctx} {Gx : σ → α → Ctx} {s0 : σ} (hi : WG I n G mi (fH c) wi G1) (hs : Looks G1 (Gs s0)) (hg : ∀ s x, TGt n (Gs s) g (c.d x) (Gx s x)) (hb : ∀ s x, WO I n (Gx s x) b cr (f s x) Gs) :
    WO I n G (sFor mi g b) cr (W.bind wi fun xs => forOW xs s0 f) Gs := wo_exp hi fun xs => by
  have key : ∀ (xs : List α) (a : σ), WO I n (Gs a) (forL g b (xs.map c.d)) cr (forOW xs a f) Gs := by
    intro xs
    induction xs with
    | nil => exact fun a e μ s Q E he hi hw => ⟨a, s, he, hi, hw⟩
    | cons x r ih =>
      intro a e μ s Q E he hi hw
      obtain ⟨e1, h1, h2⟩ := hg a x e μ he
      have h3 := hb a x e1 μ s _ _ h2 hi hw
      simp only [List.map_cons, forL, h1]
      cases z : b e1 μ with
      | nx e2 μ2 =>
        rw [z] at h3
        obtain ⟨a2, s2, h4, h5, h6⟩ := h3
        exact ih a2 e2 μ2 s2 Q E h4 h5 h6
      | rt d e2 μ2 => rw [z] at h3; exact h3
      | ex x e2 μ2 => rw [z] at h3; exact h3
      | bk e2 μ2 => rw [z] at h3; exact h3.elim
      | ct e2 μ2 => rw [z] at h3; exact h3.elim
      | bad => rw [z] at h3; exact h3.elim
  exact fun e μ s Q E he => key xs s0 e μ s Q E (he.ent hs.ent)
def whileW : Nat → (σ → W τ Bool) → (σ → W τ σ) → σ → W τ σ
  | 0, _, _, _ => W.of .bad
  | k + 1, c, f, a => W.bind (c a) fun b => W.cond b (W.bind (f a) fun a' => whileW k c f a') (W.ok a)
theorem wn_while {mc : Ma Bool} {b : MS} {k : Nat} {wc : σ → W τ Bool} {f : σ → W τ σ} {Gs : σ → Ctx} {s0 : σ} (hs : Looks G (Gs s0)) (hc : ∀ s, WG I n (Gs s) mc (fun b : Bool => b) (wc s) (Gs s)) (hb : ∀ s, WN I n (Gs s) b (f s) Gs) : WN I n G (whileL mc b k) (whileW k wc f s0) Gs := by
  have key : ∀ (k : Nat) (a : σ), WN I n (Gs a) (whileL mc b k) (whileW k wc f a) Gs := by
    intro k
    induction k with
    | zero => exact fun a e μ s Q E he hi hw => hw.elim
    | succ k ih =>
      intro a e μ s Q E he hi hw
      have h1 := hc a e μ s _ _ he hi hw
      simp only [whileL]
      cases z : mc e μ with
      | ok v e1 μ1 =>
        rw [z] at h1
        obtain ⟨_, s1, rfl, h3, h4, h5⟩ := h1
        cases v with
        | false => exact ⟨a, s1, h3, h4, h5⟩
        | true =>
          have h6 := hb a e1 μ1 s1 _ _ h3 h4 h5
          simp only
          cases y : b e1 μ1 with
          | nx e2 μ2 =>
            rw [y] at h6
            obtain ⟨a2, s2, h7, h8, h9⟩ := h6
            exact ih a2 e2 μ2 s2 Q E h7 h8 h9
          | ex x e2 μ2 => rw [y] at h6; exact h6
          | rt d e2 μ2 => rw [y] at h6; exact h6.elim
          | bk e2 μ2 => rw [y] at h6; exact h6.elim
          | ct e2 μ2 => rw [y] at h6; exact h6.elim
          | bad => rw [y] at h6; exact h6.elim
      | ex x e1 μ1 => rw [z] at h1; exact h1
      | bad => rw [z] at h1; exact h1.elim
  exact fun e μ s Q E he => key k s0 e μ s Q E (he.ent hs.ent)
/-! ### functions, calls -/
def RWF (I : τ → Mu → Prop) (r : Rc) (c : Cd ρ) (Q : ρ → τ → Prop) (E : Ex → τ → Prop) : Prop := match r with
  | .ok d μ => ∃ a s, d = c.d a ∧ I s μ ∧ Q a s
  | .ex x μ => ∃ s, I s μ ∧ E x s
  | .bad => False
def WF (I : τ → Mu → Prop) (mf : MF) (q : Cq α) (c : Cd ρ) (w : α → W τ ρ) : Prop := ∀ a μ s Q E, I s μ → w a s Q E → RWF I (mf (q.d a) μ) c Q E
theorem wf_of {mf : MF} {q : Cq α} {f : α → Rt ρ} (h : TF mf q cr f) : WF I mf q cr fun a => W.of (f a) := by
  intro a μ s Q E hi hw
  have h := h a μ
  unfold W.of at hw
  cases z : f a with
  | ok r =>
    rw [z] at h hw
    rw [show mf (q.d a) μ = .ok (cr.d r) μ from h]
    exact ⟨r, s, rfl, hi, hw⟩
  | ex x =>
    rw [z] at h hw
    rw [show mf (q.d a) μ = .ex x μ from h]
    exact ⟨s, hi, hw⟩
  | bad => rw [z] at hw; exact hw.elim
theorem wf_b {q : Cq α} {k N : Nat} {b : MS} {w : α → W τ ρ} (h : ∀ a, WB I N (ctx0 0 (q.d a)) b cr (w a)) (hk : Nat.beq q.n k = true) (hN : Nat.ble k N = true) : WF I (mFun k N b) q cr w := fun a μ s Q E hi hw => by
  have e := Nat.eq_of_beq_eq_true hk
  have h := h a (en0 N (q.d a)) μ s Q E (hs_start _ _ (by rw [q.len, e]; exact Nat.le_of_ble_eq_true hN)) hi hw
  have key : mFun k N b (q.d a) μ = outF (b (en0 N (q.d a)) μ) := by
    unfold mFun
    rw [q.len, hk]
  rw [key]
  cases z : b (en0 N (q.d a)) μ with
  | rt d e' μ' => rw [z] at h; exact h
  | ex x e' μ' => rw [z] at h; exact h
  | nx e' μ' => rw [z] at h; exact h.elim
  | bk e' μ' => rw [z] at h; exact h.elim
  | ct e' μ' => rw [z] at h; exact h.elim
  | bad => rw [z] at h; exact h.elim
theorem wf_n {q : Cq α} {k N : Nat} {b : MS} {w : α → W τ σ} {Gs : α → σ → Ctx} (h : ∀ a, WN I N (ctx0 0 (q.d a)) b (w a) (Gs a)) (hk : Nat.beq q.n k = true) (hN : Nat.ble k N = true) : WF I (mFun k N b) q cN fun a => W.bind (w a) fun _ => W.ok () := fun a μ s Q E hi hw => by
  have e := Nat.eq_of_beq_eq_true hk
  have h := h a (en0 N (q.d a)) μ s _ _ (hs_start _ _ (by rw [q.len, e]; exact Nat.le_of_ble_eq_true hN)) hi hw
  have key : mFun k N b (q.d a) μ = outF (b (en0 N (q.d a)) μ) := by
    unfold mFun
    rw [q.len, hk]
  rw [key]
  cases z : b (en0 N (q.d a)) μ with
  | nx e' μ' =>
    rw [z] at h
    obtain ⟨_, s', _, h1, h2⟩ := h
    exact ⟨(), s', rfl, h1, h2⟩
  | ex x e' μ' => rw [z] at h; exact h
  | rt e' μ' => rw [z] at h; exact h.elim
  | bk e' μ' => rw [z] at h; exact h.elim
  | ct e' μ' => rw [z] at h; exact h.elim
  | bad => rw [z] at h; exact h.elim
theorem wf_call {q : Cq α} {mf : MF} {w : α → W τ ρ} (h : WF I mf q cr w) (a : α) {ds zs dd : List D} {plan : List Nat} {k m : Nat} (h1 : ((Nat.beq ds.length k && Nat.beq zs.length m) && plains (ds ++ zs)) = true) (h2 : pickL .non plan (ds ++ zs ++ dd) = q.d a) : WE I n G (fCall mf plan dd k m ds zs) cr (w a) G := fun e μ s Q E he hi hw => by
  have h := h a μ s Q E hi hw
  unfold fCall
  rw [h1, h2]
  show RW I n cr.d G (retC e (mf (q.d a) μ)) Q E
  cases z : mf (q.d a) μ with
  | ok d μ' =>
    rw [z] at h
    obtain ⟨r, s', rfl, h3, h4⟩ := h
    exact ⟨r, s', rfl, he, h3, h4⟩
  | ex x μ' => rw [z] at h; exact h
  | bad => rw [z] at h; exact h.elim
theorem we_call {q : Cq α} {mf : MF} {v : α → W τ ρ} {plan : List Nat} {dd : List D} {k : Nat} {ma : Ma (List D)} {w : W τ α} (h : WF I mf q cr v) (ha : WA I n G ma q w G1) (hk : Nat.beq q.n k = true) (hp : ∀ a, pickL .non plan (q.d a ++ [] ++ dd) = q.d a) : WE I n G (mCall mf plan dd k ma) cr (W.bind w v) G1 :=
  wg_bind ha fun a => wf_call h a (by rw [q.len, hk, List.append_nil, q.pl]; rfl) (hp a)
theorem we_callK {q : Cq α} {q2 : Cq β} {mf : MF} {v : α → W τ ρ} {plan : List Nat} {dd : List D} {m : Nat} {mk : Ma (List D)} {w : W τ β} (u : β → α) (h : WF I mf q cr v) (ha : WA I n G mk q2 w G1) (hk : Nat.beq q2.n m = true) (hp : ∀ b, pickL .non plan (q2.d b ++ dd) = q.d (u b)) : WE I n G (mCallK mf plan dd 0 m aNil mk) cr (W.bind w fun b => v (u b)) G1 := by
  have h0 : WG I n G aNil (fun _ : Unit => []) (W.ok ()) G := wg_of (t := .ok ()) (tg_ok fun _ _ _ => rfl)
  have := wg_bind (k := fun ds => mBind mk fun zs => fCall mf plan dd 0 m ds zs) (g := cr.d) (v := fun _ => W.bind w fun b => v (u b)) h0 fun _ => wg_bind ha fun b => wf_call h (u b) (dd := dd) (plan := plan) (k := 0) (m := m) (ds := []) (zs := q2.d b) (n := n) (G := G1) (by rw [List.nil_append, q2.len, hk, q2.pl]; rfl) (by rw [List.nil_append]; exact hp b)
  exact this
/-! ### several names at once; own lists -/
theorem wp_V {c : Cd α} {m : ME} {w : W τ α} (h : WE I n G m c w G1) : WG I n G (pV m) (fun a => LV.val (c.d a)) w G1 := wg_same h fun a e μ _ => by simp only [c.pl]
theorem wp_O {m : Ma O} {f : α → O} {w : W τ α} (h : WG I n G m f w G1) : WG I n G (pO m) (fun a => LV.own (f a)) w G1 := wg_same h fun a e μ _ => rfl
theorem wp_one {m : Ma LV} {f : α → LV} {w : W τ α} (h : WG I n G m f w G1) : WG I n G (pCons m pNil) (fun a => [f a]) w G1 := wg_same h fun a e μ _ => rfl
theorem wp_cons {m : Ma LV} {ms : Ma (List LV)} {f : α → LV} {g : β → List LV} {w : W τ α} {v : W τ β} (h : WG I n G m f w G1) (h2 : WG I n G1 ms g v G2) : WG I n G (pCons m ms) (fun p : α × β => f p.1 :: g p.2) (W.bind w fun a => W.bind v fun b => W.ok (a, b)) G2 :=
  wg_bind h fun a => wg_map h2 fun b e μ _ => rfl
theorem wn_par {is : List Nat} {m : Ma (List LV)} {f : α → List LV} {w : W τ α} (h : WG I n G m f w G1) (hi : (is.all fun i => Nat.blt i n) = true) : WN I n G (sPar is m) w fun a => puts G1 is (f a) := wn_same h fun a e μ he => ⟨setsE e is (f a), rfl, hs_puts _ _ _ _ he hi⟩
theorem wn_append {c : Cd α} {i : Nat} {xs : List α} {m : ME} {w : W τ α} (hi : Nat.blt i n = true) (h : look G i = some (.own (oL c xs))) (hm : WE I n G m c w G1) (h1 : look G1 i = some (.own (oL c xs))) :
    WN I n G (sDo (mMeth (mVar i) (aCons m aNil) fAppend)) (W.bind w fun a => W.of (apR xs a)) fun ys => put G1 i (.own (oL c ys)) := fun e μ s Q E he hI hw => by
  have hm := wa_one hm e μ s _ _ he hI hw
  have key : mMeth (mVar i) (aCons m aNil) fAppend e μ = mBind (aCons m aNil) (fun ds => fAppend (.loc i) ds) e μ := by
    unfold mMeth
    show (mVar i e μ).bind _ = _
    rw [hvar he h]
    show (match Ev.contE e μ (.loc i) with
      | some (.lst _) => mBind (aCons m aNil) (fun ds => fAppend (.loc i) ds) e μ
      | _ => .bad) = _
    rw [hcontE he h]
    rfl
  unfold sDo sExp
  rw [key]
  unfold mBind
  cases z : aCons m aNil e μ with
  | ok b e1 μ1 =>
    rw [z] at hm
    obtain ⟨a, s1, rfl, h3, h4, h5⟩ := hm
    unfold W.of apR at h5
    cases y : lineB (xs.length + 1) with
    | true =>
      simp only [y] at h5
      have q : fAppend (.loc i) [c.d a] e1 μ1 = .ok .non (e1.set i (.own (oL c (xs ++ [a])))) μ1 := by
        unfold fAppend
        simp only [hcontW h3 h1, oL, List.length_map, c.pl, y, Bool.and_self, putE, putM, List.map_append, List.map_cons, List.map_nil]
      have q3 : (Rs.ok ((q1 c).d a) e1 μ1).bind (fun ds => fAppend (.loc i) ds) = .ok .non (e1.set i (.own (oL c (xs ++ [a])))) μ1 := q
      rw [q3]
      exact ⟨xs ++ [a], s1, h3.put hi, h4, h5⟩
    | false =>
      simp only [y] at h5
  | ex x e1 μ1 =>
    rw [z] at hm
    exact hm
  | bad =>
    rw [z] at hm
    exact hm.elim
/-- xs.append(ys.pop(k)), ys an own list too -/
def popAt (ys : List α) (k : Int) : Rt (α × List α) := match szB k, seqIndex? k ys.length with
  | true, some j => (match ys[j]? with
    | some a => .ok (a, ys.eraseIdx j)
    | none => .bad)
  | _, _ => .bad
theorem wn_apop {c : Cd α} {i j : Nat} {xs ys : List α} {m : ME} {w : W τ Int} (hi : Nat.blt i n = true) (hj : Nat.blt j n = true) (hij : Nat.beq j i = false) (h : look G i = some (.own (oL c xs))) (h' : look G j = some (.own (oL c ys))) (hm : WE I n G m cI w G) :
    WN I n G (sDo (mMeth (mVar i) (aCons (mMeth (mVar j) (aCons m aNil) fPop) aNil) fAppend)) (W.bind w fun k => W.of ((popAt ys k).bind fun p => (apR xs p.1).bind fun zs => .ok (p.2, zs))) fun p => put (put G j (.own (oL c p.1))) i (.own (oL c p.2)) := fun e μ s Q E he hI hw => by
  have hm := wa_one hm e μ s _ _ he hI hw
  have key : ∀ (b : Nat) (zs : List α) (ml : Ma (List D)) (f : D → List D → ME), look G b = some (.own (oL c zs)) → mMeth (mVar b) ml f e μ = mBind ml (fun ds => f (.loc b) ds) e μ := fun b zs ml f hb => by
    unfold mMeth
    show (mVar b e μ).bind _ = _
    rw [hvar he hb]
    show (match Ev.contE e μ (.loc b) with
      | some (.lst _) => mBind ml (fun ds => f (.loc b) ds) e μ
      | _ => .bad) = _
    rw [hcontE he hb]
    rfl
  unfold sDo sExp
  rw [key i xs _ _ h]
  unfold mBind
  have k2 : aCons (mMeth (mVar j) (aCons m aNil) fPop) aNil e μ = (mMeth (mVar j) (aCons m aNil) fPop e μ).bind fun d e μ => .ok [d] e μ := by
    unfold aCons mBind
    cases mMeth (mVar j) (aCons m aNil) fPop e μ <;> rfl
  rw [k2, key j ys _ _ h']
  unfold mBind
  cases z : aCons m aNil e μ with
  | ok b e1 μ1 =>
    rw [z] at hm
    obtain ⟨k, s1, rfl, h3, h4, h5⟩ := hm
    unfold W.of popAt at h5
    cases y1 : szB k with
    | false => simp only [y1, Rt.bad_bind] at h5
    | true =>
      cases y2 : seqIndex? k ys.length with
      | none => simp only [y1, y2, Rt.bad_bind] at h5
      | some l =>
        cases y3 : ys[l]? with
        | none => simp only [y1, y2, y3, Rt.bad_bind] at h5
        | some a =>
          simp only [y1, y2, y3, Rt.ok_bind] at h5
          unfold apR at h5
          cases y4 : lineB (xs.length + 1) with
          | false => simp only [y4, Rt.bad_bind] at h5
          | true =>
            simp only [y4, Rt.ok_bind] at h5
            have h3j := h3.put (l := .own (oL c (ys.eraseIdx l))) hj
            have q1' : fPop (.loc j) [.int k] e1 μ1 = .ok (c.d a) (e1.set j (.own (oL c (ys.eraseIdx l)))) μ1 := by
              unfold fPop
              simp only [hcontW h3 h', oL, List.length_map, y1, y2, List.getElem?_map, y3, Option.map_some, putE, putM]
              congr 3
              rw [← eraseIdx_map]
            have li : look (put G j (.own (oL c (ys.eraseIdx l)))) i = some (.own (oL c xs)) := by
              have : ∀ G : Ctx, look (del G j) i = look G i := by
                intro G
                induction G with
                | nil => rfl
                | cons p r ih =>
                  obtain ⟨u, lv⟩ := p
                  simp only [del, look]
                  cases c1 : Nat.beq u j with
                  | true =>
                    have := Nat.eq_of_beq_eq_true c1
                    subst this
                    simp only [ih, hij]
                  | false => simp only [look, ih]
              simp only [put, look, hij, this, h]
            have q2' : fAppend (.loc i) [c.d a] (e1.set j (.own (oL c (ys.eraseIdx l)))) μ1 = .ok .non ((e1.set j (.own (oL c (ys.eraseIdx l)))).set i (.own (oL c (xs ++ [a])))) μ1 := by
              unfold fAppend
              rw [hcontW h3j li]
              simp only [oL, List.length_map, c.pl, y4, Bool.and_self, putE, putM, List.map_append, List.map_cons, List.map_nil]
            have e3 : (Rs.ok ((q1 cI).d k) e1 μ1).bind (fun ds => fPop (.loc j) ds) = .ok (c.d a) (e1.set j (.own (oL c (ys.eraseIdx l)))) μ1 := q1'
            rw [e3]
            have q3 : ((Rs.ok (c.d a) (e1.set j (.own (oL c (ys.eraseIdx l)))) μ1).bind fun d e μ => .ok [d] e μ).bind (fun ds => fAppend (.loc i) ds) = .ok .non ((e1.set j (.own (oL c (ys.eraseIdx l)))).set i (.own (oL c (xs ++ [a])))) μ1 := q2'
            rw [q3]
            exact ⟨(ys.eraseIdx l, xs ++ [a]), s1, h3j.put hi, h4, h5⟩
  | ex x e1 μ1 =>
    rw [z] at hm
    exact hm
  | bad =>
    rw [z] at hm
    exact hm.elim
where
  eraseIdx_map {α β : Type} (f : α → β) : ∀ (l : List α) (k : Nat), (l.eraseIdx k).map f = (l.map f).eraseIdx k
    | [], _ => by simp
    | _ :: _, 0 => rfl
    | x :: l, k + 1 => by simp only [List.eraseIdx_cons_succ, List.map_cons, eraseIdx_map f l k]
end
/-! ### a bag to draw from -/
def cRk (k : Nat) : Cd Unit := ⟨fun _ => .ref k, fun _ => rfl⟩
def PoolI (k : Nat) : Unit → Mu → Prop := fun _ μ => ∃ b0 b1 b2 : Int, μ[k]? = some (.lst [.int b0, .int b1, .int b2])
def drawW (top : Int) : W Unit Int := fun s Q _ => 0 < top ∧ top < 1073741824 ∧ ∀ r, 0 ≤ r → r < top → Q r s
/-! ### a bag that is made; the law's own walk -/
def cRef : Cd Nat := ⟨.ref, fun _ => rfl⟩
def LawI : Option Nat → Mu → Prop := fun s μ => match s with
  | none => True
  | some k => PoolI k () μ
def RA (μ : Mu) (r : Rst) (t : Rt (List Int)) : Prop := match t with
  | .ok xs => ∃ e', r = .rt (.ref μ.length) e' (μ ++ [.lst (xs.map .int)])
  | .ex x => ∃ e', r = .ex x e' μ
  | .bad => True
/-- a block that hands back a new list of the store -/
def TAl (n : Nat) (G : Ctx) (b : MS) (t : Rt (List Int)) : Prop := ∀ e μ, Hs n G e → RA μ (b e μ) t
theorem tal_ret {n : Nat} {G G1 : Ctx} {m : Ma O} {t : Rt (List Int)} (h : TG n G m (oL cI) t G1) : TAl n G (sRet (mAlloc m)) t := by
  intro e μ he
  have h := h e μ he
  unfold sRet sExp mAlloc
  cases t with
  | ok xs =>
    obtain ⟨e1, h3, h4⟩ := h
    refine ⟨e1, ?_⟩
    rw [h3]
    rfl
  | ex x =>
    obtain ⟨e1, h3⟩ := h
    refine ⟨e1, ?_⟩
    rw [h3]
  | bad => trivial
theorem tal_seq {σ : Type} {n : Nat} {G : Ctx} {a b : MS} {t : Rt σ} {u : σ → Rt (List Int)} {Gs : σ → Ctx} (h : TN n G a t Gs) (h2 : ∀ s, TAl n (Gs s) b (u s)) : TAl n G (sSeq a b) (t.bind u) := by
  intro e μ he
  have h := h e μ he
  unfold sSeq
  cases t with
  | ok s =>
    obtain ⟨e1, h3, h4⟩ := h
    rw [h3]
    exact h2 s e1 μ h4
  | ex x =>
    obtain ⟨e1, h3⟩ := h
    rw [h3]
    exact ⟨e1, rfl⟩
  | bad => trivial
/-- what the law needs of its bag -/
def bagW (ok : Prop) : W (Option Nat) Nat := fun _ Q _ => ok ∧ ∀ k, Q k (some k)
theorem bag_wf {α : Type} {q : Cq α} {k N : Nat} {b : MS} {f : α → Rt (List Int)} {ok : α → Prop} (h : ∀ a, TAl N (ctx0 0 (q.d a)) b (f a)) (hk : Nat.beq q.n k = true) (hN : Nat.ble k N = true) (hf : ∀ a, ok a → ∃ b0 b1 b2, f a = .ok [b0, b1, b2]) : WF LawI (mFun k N b) q cRef fun a => bagW (ok a) := fun a μ s Q E hi hw => by
  have e := Nat.eq_of_beq_eq_true hk
  obtain ⟨h1, h2⟩ := hw
  obtain ⟨b0, b1, b2, h3⟩ := hf a h1
  have h := h a (en0 N (q.d a)) μ (hs_start _ _ (by rw [q.len, e]; exact Nat.le_of_ble_eq_true hN))
  have key : mFun k N b (q.d a) μ = outF (b (en0 N (q.d a)) μ) := by
    unfold mFun
    rw [q.len, hk]
  rw [key]
  rw [h3] at h
  obtain ⟨e', h⟩ := h
  rw [h]
  exact ⟨μ.length, some μ.length, rfl, ⟨b0, b1, b2, by simp⟩, h2 _⟩
/-- what is so for each bag -/
def rightW (k : Nat) : W (Option Nat) Bool := fun s Q _ => s = some k ∧ Q true (some k)
theorem right_wf {mf : MF} {w : W Unit Bool} (h : ∀ k, WF (PoolI k) mf (q1 (cRk k)) cB fun _ => w) (hw : ∀ E, w () (fun b _ => b = true) E) : WF LawI mf (q1 cRef) cB rightW := fun k μ s Q E hi hh => by
  obtain ⟨rfl, hq⟩ := hh
  have h := h k () μ () (fun b _ => b = true) (fun _ _ => False) hi (hw _)
  show RWF LawI (mf [.ref k] μ) cB Q E
  have e : (q1 (cRk k)).d () = [.ref k] := rfl
  rw [e] at h
  cases z : mf [.ref k] μ with
  | ok d μ' =>
    rw [z] at h
    obtain ⟨b, _, h1, h2, h3⟩ := h
    subst h3
    exact ⟨true, some k, h1, h2, hq⟩
  | ex x μ' =>
    rw [z] at h
    obtain ⟨_, _, h⟩ := h
    exact h.elim
  | bad =>
    rw [z] at h
    exact h.elim
theorem law_end {mf : MF} {w : List Int → W (Option Nat) Bool} (h : WF LawI mf (q1 (cScr cI)) cB w) (ns : List Int) (hw : w ns none (fun b _ => b = true) (fun _ _ => False)) : ∃ μ, mf [.scr (ns.map .int)] [] = .ok (.bl true) μ := by
  have h := h ns [] none _ _ trivial hw
  have e : (q1 (cScr cI)).d ns = [.scr (ns.map .int)] := rfl
  rw [e] at h
  cases z : mf [.scr (ns.map .int)] [] with
  | ok d μ' =>
    rw [z] at h
    obtain ⟨b, _, h1, h2, h3⟩ := h
    subst h3
    exact ⟨μ', by rw [h1]; rfl⟩
  | ex x μ' =>
    rw [z] at h
    obtain ⟨_, _, h⟩ := h
    exact h.elim
  | bad =>
    rw [z] at h
    exact h.elim
end Ty

set_option maxRecDepth 100000
set_option maxHeartbeats 4000000
/-! PA: loops over Lean types by invariants; tables; how many there can be. -/
namespace Ty
open PySem PySem.Spec PyProof.Rows L2 Ev
section
variable {α β γ σ ρ κ ν : Type}
theorem forT_inv {f : σ → α → Rt σ} (I : List α → σ → Prop) : ∀ (xs : List α) (s : σ), (∀ x r s, I (x :: r) s → ∃ s', f s x = .ok s' ∧ I r s') → I xs s → ∃ s', forT xs s f = .ok s' ∧ I [] s'
  | [], s, _, h => ⟨s, rfl, h⟩
  | x :: r, s, st, h => by
    obtain ⟨s', h1, h2⟩ := st x r s h
    obtain ⟨s2, h3, h4⟩ := forT_inv I r s' st h2
    refine ⟨s2, ?_, h4⟩
    rw [forT, h1]
    exact h3
theorem forT_fold {f : σ → α → Rt σ} {g : σ → α → σ} : ∀ (xs : List α) (s : σ), (∀ x ∈ xs, ∀ s, f s x = .ok (g s x)) → forT xs s f = .ok (xs.foldl g s)
  | [], s, _ => rfl
  | x :: r, s, h => by
    rw [forT, h x List.mem_cons_self, Rt.ok_bind]
    exact forT_fold r _ fun y hy => h y (List.mem_cons_of_mem _ hy)
theorem whileT_inv {c : σ → Rt Bool} {f : σ → Rt σ} (I : σ → Prop) (m : σ → Nat) (st : ∀ s, I s → c s = .ok false ∨ (c s = .ok true ∧ ∃ s', f s = .ok s' ∧ I s' ∧ m s' < m s)) : ∀ (k : Nat) (s : σ), I s → m s < k → ∃ s', whileT k c f s = .ok s' ∧ I s' ∧ c s' = .ok false
  | 0, s, _, h => absurd h (Nat.not_lt_zero _)
  | k + 1, s, i, h => by
    rcases st s i with h1 | ⟨h1, s', h2, h3, h4⟩
    · exact ⟨s, by rw [whileT, h1]; rfl, i, h1⟩
    · obtain ⟨s2, g1, g2⟩ := whileT_inv I m st k s' h3 (by omega)
      refine ⟨s2, ?_, g2⟩
      rw [whileT, h1, Rt.ok_bind, cond_true, h2, Rt.ok_bind]
      exact g1
theorem lcT_ok {T : α → Rt Bool} {F : α → Rt β} {P : α → Bool} {g : α → β} : ∀ xs : List α, (∀ x ∈ xs, T x = .ok (P x)) → (∀ x ∈ xs, P x = true → F x = .ok (g x)) → lcT xs T F = .ok ((xs.filter P).map g)
  | [], _, _ => rfl
  | x :: r, h1, h2 => by
    have ih := lcT_ok r (fun y hy => h1 y (List.mem_cons_of_mem _ hy)) fun y hy => h2 y (List.mem_cons_of_mem _ hy)
    rw [lcT, h1 x List.mem_cons_self]
    cases c : P x with
    | true =>
      simp only [h2 x List.mem_cons_self c, ih]
      rw [List.filter_cons_of_pos c, List.map_cons]
    | false =>
      simp only [ih]
      rw [List.filter_cons_of_neg (by rw [c]; exact Bool.false_ne_true)]
theorem filter_yes (l : List α) : l.filter (fun _ => true) = l := List.filter_eq_self.mpr fun _ _ => rfl
theorem lcT_map {F : α → Rt β} {g : α → β} (xs : List α) (h : ∀ x ∈ xs, F x = .ok (g x)) : lcT xs (fun _ => .ok true) F = .ok (xs.map g) := by
  rw [lcT_ok (P := fun _ => true) (g := g) xs (fun _ _ => rfl) fun x hx _ => h x hx, filter_yes]
theorem lcT2_ok {T : α → Rt Bool} {I : α → Rt (List β)} {T1 : α → β → Rt Bool} {F : α → β → Rt γ} {es : α → List β} {P : α → β → Bool} {g : α → β → γ} : ∀ xs : List α, (∀ x ∈ xs, T x = .ok true) → (∀ x ∈ xs, I x = .ok (es x)) → (∀ x ∈ xs, ∀ y ∈ es x, T1 x y = .ok (P x y)) → (∀ x ∈ xs, ∀ y ∈ es x, P x y = true → F x y = .ok (g x y)) →
    lcT2 xs T I T1 F = .ok (xs.flatMap fun x => ((es x).filter (P x)).map (g x))
  | [], _, _, _, _ => rfl
  | x :: r, h1, h2, h3, h4 => by
    have ih := lcT2_ok r (fun y hy => h1 y (List.mem_cons_of_mem _ hy)) (fun y hy => h2 y (List.mem_cons_of_mem _ hy)) (fun y hy => h3 y (List.mem_cons_of_mem _ hy)) fun y hy => h4 y (List.mem_cons_of_mem _ hy)
    rw [lcT2, h1 x List.mem_cons_self]
    simp only [h2 x List.mem_cons_self, lcT_ok (es x) (h3 x List.mem_cons_self) (h4 x List.mem_cons_self), ih]
    rfl
theorem lineB_of {n : Nat} (h : n ≤ 16777216) : lineB n = true := Nat.ble_eq_true_of_le h
theorem lineR_of {xs : List α} (h : xs.length ≤ 16777216) : lineR xs = .ok xs := by rw [lineR, lineB_of h]
theorem apR_of {xs : List α} {a : α} (h : xs.length < 16777216) : apR xs a = .ok (xs ++ [a]) := by rw [apR, lineB_of h]
theorem catR_of {xs ys : List α} (h : xs.length + ys.length ≤ 16777216) : catR xs ys = .ok (xs ++ ys) := by rw [catR, lineB_of h]
theorem szB_of {i : Int} (h : i.natAbs ≤ 1000000000000) : szB i = true := Nat.ble_eq_true_of_le h
theorem rngR1_of {n : Nat} (h : n ≤ 1000000000000) : rngR1 (n : Int) = .ok ((List.range n).map fun (i : Nat) => (i : Int)) := by
  rw [rngR1, szB_of (by omega), rng]
  simp only [Int.toNat_natCast, Int.zero_add]
theorem rngR2_of {a b : Nat} (h : a ≤ 1000000000000) (h2 : b ≤ 1000000000000) : rngR2 (a : Int) (b : Int) = .ok ((List.range (b - a)).map fun (i : Nat) => ((a + i : Nat) : Int)) := by
  rw [rngR2, szB_of (by omega), szB_of (by omega), rng]
  have h5 : ((b : Int) - (a : Int)).toNat = b - a := by omega
  simp only [Bool.and_self, h5, Int.natCast_add]
theorem ixN_nat {n i : Nat} (h : i < n) : ixN n (i : Int) = some i := by
  unfold ixN
  rw [if_pos (by omega), if_pos (by omega), Int.toNat_natCast]
theorem atI_nat {xs : List α} {i : Nat} (h : i < xs.length) : atI xs (i : Int) = some xs[i] := by
  rw [atI, ixN_nat h, Option.bind_some, List.getElem?_eq_getElem h]
theorem ixR_nat {xs : List α} {i : Nat} (h : i < xs.length) : ixR xs (i : Int) = .ok xs[i] := by rw [ixR, atI_nat h]
theorem setR_nat {xs : List α} {i : Nat} {a : α} (h : i < xs.length) : setR xs (i : Int) a = .ok (xs.set i a) := by rw [setR, ixN_nat h]
theorem cut_to (xs : List α) {i : Nat} (h : i ≤ xs.length) : Ev.cutD xs none (some (i : Int)) = xs.take i := by
  rw [Ev.cutD, HT.sIx_none, HT.sIx_nat, Nat.min_eq_left h, List.drop_zero, Nat.sub_zero]
theorem cut_from (xs : List α) {i : Nat} (h : i ≤ xs.length) : Ev.cutD xs (some (i : Int)) none = xs.drop i := by
  rw [Ev.cutD, HT.sIx_none, HT.sIx_nat, Nat.min_eq_left h, List.take_of_length_le (by rw [List.length_drop]; exact Nat.le_refl _)]
theorem cut_mid (xs : List α) {i j : Nat} (h : i ≤ xs.length) (h2 : j ≤ xs.length) : Ev.cutD xs (some (i : Int)) (some (j : Int)) = (xs.drop i).take (j - i) := by
  rw [Ev.cutD, HT.sIx_nat, HT.sIx_nat, Nat.min_eq_left h, Nat.min_eq_left h2]
/-! ### tables -/
variable [DecidableEq κ]
theorem lk_look : ∀ (kv : List (κ × Int)) (q : κ), lk kv q = Bf.look (kv.map (·.1)) (kv.map (·.2)) q
  | [], _ => rfl
  | (k, v) :: r, q => by
    rw [lk, List.map_cons, List.map_cons, Bf.look, lk_look r]
theorem pt_new {kv : List (κ × ν)} {q : κ} {x : ν} (h : lk kv q = none) : pt kv q x = kv ++ [(q, x)] := by rw [pt, h]
theorem ptR_new {kv : List (κ × ν)} {q : κ} {x : ν} (h : lk kv q = none) (hl : kv.length ≤ 1000000) : ptR kv q x = .ok (kv ++ [(q, x)]) := by rw [ptR, Nat.ble_eq_true_of_le hl, pt_new h]
theorem dGetR_some {kv : List (κ × ν)} {q : κ} {x : ν} (h : lk kv q = some x) : dGetR kv q = .ok x := by rw [dGetR, h]
end
end Ty
/-! ### how many -/
namespace Cnt
theorem nodup_lt : ∀ (m : Nat) (l : List Nat), l.Nodup → (∀ x ∈ l, x < m) → l.length ≤ m
  | 0, l, _, h => by
    cases l with
    | nil => exact Nat.le_refl _
    | cons x r => exact absurd (h x List.mem_cons_self) (Nat.not_lt_zero _)
  | m + 1, l, nd, h => by
    have e1 : (l.erase m).length ≤ m := nodup_lt m (l.erase m) (nd.erase m) fun x hx => by
      have hx' := List.mem_of_mem_erase hx
      have := h x hx'
      have hne : x ≠ m := fun e => by
        subst e
        exact (List.Nodup.not_mem_erase nd) hx
      omega
    by_cases hm : m ∈ l
    · rw [List.length_erase_of_mem hm] at e1
      omega
    · rw [List.erase_of_not_mem hm] at e1
      omega
/-- rows of n places with kinds below b, as numbers -/
def code (b : Nat) : List Int → Nat
  | [] => 0
  | x :: r => x.toNat + b * code b r
theorem code_lt {b : Nat} (hb : 0 < b) : ∀ xs : List Int, (∀ x ∈ xs, 0 ≤ x ∧ x < b) → code b xs < b ^ xs.length
  | [], _ => by simp [code]
  | x :: r, h => by
    have h1 := h x List.mem_cons_self
    have h2 := code_lt hb r fun y hy => h y (List.mem_cons_of_mem _ hy)
    rw [code, List.length_cons, Nat.pow_succ]
    have h3 : x.toNat < b := by omega
    have h4 : b * (code b r + 1) ≤ b * b ^ r.length := Nat.mul_le_mul_left b h2
    rw [Nat.mul_add] at h4
    rw [Nat.mul_comm (b ^ r.length) b]
    omega
theorem code_inj {b : Nat} (hb : 0 < b) : ∀ xs ys : List Int, xs.length = ys.length → (∀ x ∈ xs, 0 ≤ x ∧ x < b) → (∀ x ∈ ys, 0 ≤ x ∧ x < b) → code b xs = code b ys → xs = ys
  | [], [], _, _, _, _ => rfl
  | [], _ :: _, l, _, _, _ => by cases l
  | _ :: _, [], l, _, _, _ => by cases l
  | x :: r, y :: s, l, h1, h2, e => by
    have a1 := h1 x List.mem_cons_self
    have a2 := h2 y List.mem_cons_self
    rw [code, code] at e
    have b1 : x.toNat < b := by omega
    have b2 : y.toNat < b := by omega
    have m1 : (x.toNat + b * code b r) % b = x.toNat := by rw [Nat.add_mul_mod_self_left, Nat.mod_eq_of_lt b1]
    have m2 : (y.toNat + b * code b s) % b = y.toNat := by rw [Nat.add_mul_mod_self_left, Nat.mod_eq_of_lt b2]
    have e1 : x.toNat = y.toNat := by rw [← m1, ← m2, e]
    have e2 : code b r = code b s := by
      rw [e1] at e
      exact Nat.eq_of_mul_eq_mul_left hb (Nat.add_left_cancel e)
    have e3 : x = y := by omega
    rw [e3, code_inj hb r s (by simpa using l) (fun z hz => h1 z (List.mem_cons_of_mem _ hz)) (fun z hz => h2 z (List.mem_cons_of_mem _ hz)) e2]
theorem rows_le {b n : Nat} (hb : 0 < b) (L : List (List Int)) (nd : L.Nodup) (h : ∀ xs ∈ L, xs.length = n ∧ ∀ x ∈ xs, 0 ≤ x ∧ x < b) : L.length ≤ b ^ n := by
  have nd2 : (L.map (code b)).Nodup := by
    rw [List.nodup_iff_pairwise_ne, List.pairwise_map]
    refine List.Pairwise.imp_of_mem ?_ (List.nodup_iff_pairwise_ne.mp nd)
    intro xs ys hx hy ne e
    exact ne (code_inj hb xs ys ((h xs hx).1.trans (h ys hy).1.symm) (h xs hx).2 (h ys hy).2 e)
  have := nodup_lt (b ^ n) (L.map (code b)) nd2 fun x hx => by
    obtain ⟨xs, h1, rfl⟩ := List.mem_map.mp hx
    have := code_lt hb xs (h xs h1).2
    rw [(h xs h1).1] at this
    exact this
  rwa [List.length_map] at this
end Cnt

set_option maxRecDepth 100000
set_option maxHeartbeats 4000000
/-! PB: what is shown is short; looks at values that are right -/
namespace Ty
open PySem PySem.Spec PyProof.Rows L2 Ev
/-- data whose text is not long -/
structure Sm (W : Nat) (p : PyData) : Prop where
  s : p.showable = true
  d : p.hasDict = false
  l : p.leavesShort 13 = true
  w : p.weight ≤ W
theorem sm_int {i : Int} (h : i.natAbs < 10 ^ 12) : Sm 41 (.int i) := by
  have hl : i.natAbs.log2 < 40 := by
    by_cases h0 : i.natAbs = 0
    · rw [h0]; decide
    · exact (Nat.log2_lt h0).mpr (Nat.lt_trans h (by decide))
  refine ⟨?_, by simp only [PyData.hasDict], ?_, ?_⟩
  · simp only [PyData.showable]
    exact decide_eq_true (by omega)
  · simp only [PyData.leavesShort, decide_eq_true_eq]
    exact PyData.shown_int_le h
  · simp only [PyData.weight]
    split <;> omega
theorem sm_none : Sm 0 .none := ⟨by simp only [PyData.showable], by simp only [PyData.hasDict], by simp only [PyData.leavesShort], by simp only [PyData.weight]; exact Nat.le_refl _⟩
theorem sm_bool (b : Bool) : Sm 0 (.bool b) := ⟨by simp only [PyData.showable], by simp only [PyData.hasDict], by simp only [PyData.leavesShort], by simp only [PyData.weight]; exact Nat.le_refl _⟩
theorem Sm.le {W V : Nat} {p : PyData} (h : Sm W p) (k : W ≤ V) : Sm V p := ⟨h.s, h.d, h.l, Nat.le_trans h.w k⟩
theorem smA {W : Nat} : ∀ ps : List PyData, (∀ p ∈ ps, Sm W p) → PyData.showableAll ps = true ∧ PyData.hasDictAll ps = false ∧ PyData.leavesShortAll 13 ps = true ∧ PyData.weightAll ps ≤ ps.length * (W + 1)
  | [], _ => by simp [PyData.showableAll, PyData.hasDictAll, PyData.leavesShortAll, PyData.weightAll]
  | p :: ps, h => by
    obtain ⟨h1, h2, h3, h4⟩ := smA ps fun q hq => h q (List.mem_cons_of_mem _ hq)
    have k := h p List.mem_cons_self
    refine ⟨by simp only [PyData.showableAll, k.s, h1, Bool.and_self], by simp only [PyData.hasDictAll, k.d, h2, Bool.or_self], by simp only [PyData.leavesShortAll, k.l, h3, Bool.and_self], ?_⟩
    have := k.w
    simp only [PyData.weightAll, List.length_cons, Nat.add_mul]
    omega
theorem sm_tuple {W k : Nat} {ps : List PyData} (h : ∀ p ∈ ps, Sm W p) (hk : ps.length ≤ k) : Sm (k * (W + 1)) (.tuple ps) := by
  obtain ⟨h1, h2, h3, h4⟩ := smA ps h
  exact ⟨by simp only [PyData.showable, h1], by simp only [PyData.hasDict, h2], by simp only [PyData.leavesShort, h3], by simp only [PyData.weight]; exact Nat.le_trans h4 (Nat.mul_le_mul_right _ hk)⟩
theorem sm_list {W k : Nat} {ps : List PyData} (h : ∀ p ∈ ps, Sm W p) (hk : ps.length ≤ k) : Sm (k * (W + 1)) (.list ps) := by
  obtain ⟨h1, h2, h3, h4⟩ := smA ps h
  exact ⟨by simp only [PyData.showable, h1], by simp only [PyData.hasDict, h2], by simp only [PyData.leavesShort, h3], by simp only [PyData.weight]; exact Nat.le_trans h4 (Nat.mul_le_mul_right _ hk)⟩
theorem reprR_sm {p : PyData} (h : Sm (2 ^ 20) p) (hd : p.depth ≤ 20) : reprR p = .ok (PyData.shown p) := by
  have e : repB p = true := by
    have h1 : p.shown.length ≤ sizeLine := PyData.shown_fits (by decide) (by decide) h.l h.w
    unfold repB
    rw [h.s, h.d, Nat.ble_eq_true_of_le hd, lineB_of (by rw [sizeLine_eq] at h1; exact h1)]
    rfl
  rw [reprR, e]
/-! ### isinstance, anything as -/
section
variable {α : Type}
theorem isi_T (c : Cd α) (xs : List α) : isiR (anyOf (cT c) xs) .tup = .ok true := rfl
theorem isi_I (i : Int) : isiR (anyOf cI i) .int = .ok true := rfl
theorem isi_IB (i : Int) : isiR (anyOf cI i) .bl = .ok false := rfl
theorem isi_S (x : Str) : isiR (anyOf cS x) .str = .ok true := rfl
theorem asI_any (i : Int) : asI (anyOf cI i) = .ok i := rfl
theorem asS_any (i : Str) : asS (anyOf cS i) = .ok i := rfl
theorem toPvs_any (c : Cd α) : ∀ xs : List α, toPvs (xs.map c.d) = some (xs.map (anyOf c))
  | [] => rfl
  | x :: xs => by
    rw [List.map_cons, toPvs]
    split
    · rename_i ps h1 h2
      rw [toPvs_any c xs] at h2
      cases h2
      rfl
    · rename_i h
      exact absurd (toPvs_any c xs) (h (xs.map (anyOf c)) (c.pl x))
theorem asT_any (c : Cd α) (xs : List α) : asT (anyOf (cT c) xs) = .ok (xs.map (anyOf c)) := by
  show (match toPvs (xs.map c.d) with | some ps => Rt.ok ps | none => .bad) = _
  rw [toPvs_any]
theorem asTI_any (xs : List Int) : asTI (anyOf (cT cI) xs) = .ok xs := by
  show (match intsD (xs.map cI.d) with | some ps => Rt.ok ps | none => .bad) = _
  rw [intsD_map]
end
end Ty

set_option maxRecDepth 100000
set_option maxHeartbeats 0
namespace G
open PySem PySem.Spec PyProof.Rows L2 Ev
def fb1__law_bag : MS := (sSet 2 (m2 fMod (mBind (aCons (m2 fAdd (m2 fAdd (m2 fMul (mVar 2) (mC (.int 48271))) (m2 fMod (mBind (aCons (mVar 3) aNil) (one fIntO)) (mC (.int 2147483629)))) (mC (.int 23))) aNil) (one fIntO)) (mC (.int 2147483647))))
def f1__law_bag : MS := sFor (mBind (mSl (mVar 0) oNone (oSome (mC (.int 16)))) frzSeq) (gSet 3) fb1__law_bag
def b__law_bag : MS := (sSeq (sSet 2 (m2 fAdd (mC (.int 52027)) (m2 fMul (mC (.int 8009)) (mVar 1)))) (sSeq f1__law_bag (sSeq (sSet 4 (mIfB (mTest (m2 fLt (mVar 1) (mBind (aCons (mVar 0) aNil) (one fLen)))) (mBind (aCons (m2 fIx (mVar 0) (mVar 1)) aNil) (one fIntO)) (mC (.int 0)))) (sSeq (sSet 2 (m2 fMod (mBind (aCons (m2 fAdd (m2 fAdd (m2 fMul (mVar 2) (mC (.int 31))) (m2 fMul (m2 fMod (mBind (aCons (mVar 4) aNil) (one fIntO)) (mC (.int 2147483629))) (mC (.int 17)))) (mC (.int 3))) aNil) (one fIntO)) (mC (.int 2147483647)))) (sRet (mAlloc (mLst (aCons (mIfB (mOr (mTest (m2 fLt (mVar 4) (mC (.int 0)))) (mTest (m2 fGe (mVar 4) (m2 fPow (mC (.int 10)) (mC (.int 15)))))) (mBind (aCons (mVar 4) aNil) (one fAbs)) (mC (.int 0))) (aCons (mVar 2) (aCons (mC (.int 0)) aNil))))))))))
def m__law_bag : MF := mFun 2 5 b__law_bag
def b__law_take : MS := (sSeq (sIf (mTest (m2 fGt (m2 fIx (mVar 0) (mC (.int 0))) (mC (.int 0)))) (sSeq (sAsg (mBind (aCons (m2 fIx (mVar 0) (mC (.int 0))) (aCons (mVar 1) aNil)) (two fDivmod)) (gTupl 2 (gMore (gItem (mVar 0) (mC (.int 0))) (gMore (gSet 2) gNone)))) (sRet (mVar 2))) sSkip) (sSeq (sAsg (m2 fAdd (m2 fIx (mVar 0) (mC (.int 2))) (mC (.int 1))) (gItem (mVar 0) (mC (.int 2)))) (sSeq (sAsg (m2 fMod (mBind (aCons (m2 fAdd (m2 fAdd (m2 fMul (m2 fIx (mVar 0) (mC (.int 1))) (mC (.int 16807))) (m2 fMul (mC (.int 4099)) (m2 fIx (mVar 0) (mC (.int 2))))) (mC (.int 1))) aNil) (one fIntO)) (mC (.int 2147483647))) (gItem (mVar 0) (mC (.int 1)))) (sRet (m2 fMod (mBind (aCons (m2 fDiv (m2 fIx (mVar 0) (mC (.int 1))) (mC (.int 911))) aNil) (one fIntO)) (mVar 1))))))
def m__law_take : MF := mFun 2 3 b__law_take
def c1__law_row : Ma O := mLc (mBind (aCons (m2 fAdd (mC (.int 1)) (mCall m__law_take [0, 1] [] 2 (aCons (mVar 0) (aCons (mVar 1) aNil)))) aNil) (one fRng1)) [3] (gSet 3) mYes (mCall m__law_take [0, 1] [] 2 (aCons (mVar 0) (aCons (mVar 2) aNil)))
def b__law_row : MS := (sSeq (sSet 2 (m2 fAdd (mC (.int 2)) (mCall m__law_take [0, 1] [] 2 (aCons (mVar 0) (aCons (mC (.int 3)) aNil))))) (sRet (mTup (aCons (mVar 2) (aCons (mBind (aCons (mVal (c1__law_row)) aNil) (one fTuple)) aNil)))))
def m__law_row : MF := mFun 2 4 b__law_row
def b__law_pull : MS := (sRet (m2 fIx (mVar 1) (mCall m__law_take [0, 1] [] 2 (aCons (mVar 0) (aCons (mBind (aCons (mVar 1) aNil) (one fLen)) aNil)))))
def m__law_pull : MF := mFun 2 2 b__law_pull
def b__law_way : MS := (sRet (mCall m__law_pull [0, 1] [] 2 (aCons (mVar 0) (aCons (mVal (mLst (aCons (mC (.str "any")) (aCons (mC (.str "near")) (aCons (mC (.str "move")) (aCons (mC (.str "front")) aNil)))))) aNil))))
def m__law_way : MF := mFun 1 1 b__law_way
def wb1__law_mixed : MS := (sDo (mMeth (mVar 3) (aCons (mMeth (mVar 2) (aCons (mCall m__law_take [0, 1] [] 2 (aCons (mVar 0) (aCons (mBind (aCons (mVar 2) aNil) (one fLen)) aNil))) aNil) fPop) aNil) fAppend))
def w1__law_mixed : MS := whileL (mTest (m2 fNe (mVar 2) (mVal (mLst aNil)))) wb1__law_mixed 1000
def b__law_mixed : MS := (sSeq (sPar [2, 3] (pCons (pO (mBind (aCons (mVar 1) aNil) (one fListO))) (pCons (pO (mLst aNil)) pNil))) (sSeq w1__law_mixed (sRet (mBind (aCons (mVar 3) aNil) (one fTuple)))))
def m__law_mixed : MF := mFun 2 4 b__law_mixed
def fb1__law_steps : MS := (sIf (mOr (mTest (m2 fEq (mVar 1) (mC (.str "move")))) (mAnd (mTest (m2 fEq (mVar 1) (mC (.str "front")))) (mTest (m2 fEq (mVar 5) (mC (.int 0)))))) (sSeq (sSet 6 (m2 fAdd (mSl (mVar 0) oNone (oSome (mVar 2))) (mSl (mVar 0) (oSome (m2 fAdd (mVar 2) (mC (.int 1)))) oNone))) (sDo (mMeth (mVar 3) (aCons (m2 fAdd (m2 fAdd (mSl (mVar 6) oNone (oSome (mVar 5))) (mTup (aCons (m2 fIx (mVar 0) (mVar 2)) aNil))) (mSl (mVar 6) (oSome (mVar 5)) oNone)) aNil) fAppend))) (sIf (mAnd (mTest (m2 fLt (mVar 2) (mVar 5))) (mOr (mTest (m2 fEq (mVar 1) (mC (.str "any")))) (mOr (mAnd (mTest (m2 fEq (mVar 1) (mC (.str "near")))) (mTest (m2 fEq (mVar 5) (m2 fAdd (mVar 2) (mC (.int 1)))))) (mAnd (mTest (m2 fEq (mVar 1) (mC (.str "ring")))) (mTest (m2 (fIn false) (m2 fSub (mVar 5) (mVar 2)) (mTup (aCons (mC (.int 1)) (aCons (m2 fSub (mVar 4) (mC (.int 1))) aNil))))))))) (sDo (mMeth (mVar 3) (aCons (m2 fAdd (m2 fAdd (m2 fAdd (m2 fAdd (mSl (mVar 0) oNone (oSome (mVar 2))) (mTup (aCons (m2 fIx (mVar 0) (mVar 5)) aNil))) (mSl (mVar 0) (oSome (m2 fAdd (mVar 2) (mC (.int 1)))) (oSome (mVar 5)))) (mTup (aCons (m2 fIx (mVar 0) (mVar 2)) aNil))) (mSl (mVar 0) (oSome (m2 fAdd (mVar 5) (mC (.int 1)))) oNone)) aNil) fAppend)) sSkip))
def f1__law_steps : MS := sFor (mBind (aCons (mVar 4) aNil) (one fRng1)) (gSet 5) fb1__law_steps
def fb2__law_steps : MS := f1__law_steps
def f2__law_steps : MS := sFor (mBind (aCons (mVar 4) aNil) (one fRng1)) (gSet 2) fb2__law_steps
def b__law_steps : MS := (sSeq (sPar [3, 4] (pCons (pO (mLst aNil)) (pCons (pV (mBind (aCons (mVar 0) aNil) (one fLen))) pNil))) (sSeq f2__law_steps (sRet (mFrz 3))))
def m__law_steps : MF := mFun 2 7 b__law_steps
def fb1__law_off : MS := (sIf (mTest (m2 (fDIn true) (mVar 6) (mVar 2))) (sSeq (sDPutM (mVar 2) (mVar 6) (m2 fAdd (m2 fDGet (mVar 2) (mVar 5)) (mC (.int 1)))) (sDo (mMeth (mVar 4) (aCons (mVar 6) aNil) fAppend))) sSkip)
def f1__law_off : MS := sFor (mBind (mCall m__law_steps [0, 1] [] 2 (aCons (mVar 5) (aCons (mVar 1) aNil))) frzSeq) (gSet 6) fb1__law_off
def fb2__law_off : MS := f1__law_off
def f2__law_off : MS := sFor (mBind (mVar 3) frzSeq) (gSet 5) fb2__law_off
def wb1__law_off : MS := (sSeq (sOwn 4 (mLst aNil)) (sSeq f2__law_off (sSet 3 (mFrz 4))))
def w1__law_off : MS := whileL (mTest (m2 fNe (mVar 3) (mVal (mLst aNil)))) wb1__law_off 1000
def b__law_off : MS := (sSeq (sPar [2, 3] (pCons (pO (mDOne (mVar 0) (mC (.int 0)))) (pCons (pV (mVal (mLst (aCons (mVar 0) aNil)))) pNil))) (sSeq w1__law_off (sRet (mFrz 2))))
def m__law_off : MF := mFun 2 7 b__law_off
def c1__law_all_rows : Ma O := mLc (mBind (mVal (mBind (aCons (mVar 0) aNil) (one fSortSet))) frzSeq) [5] (gSet 5) (mTest (m2 fLt (mCountT (mVar 4) (mVar 5)) (mCountT (mVar 0) (mVar 5)))) (m2 fAdd (mVar 4) (mTup (aCons (mVar 5) aNil)))
def fb1__law_all_rows : MS := (sSet 3 (m2 fAdd (mVar 3) (mVal (c1__law_all_rows))))
def f1__law_all_rows : MS := sFor (mBind (mVar 1) frzSeq) (gSet 4) fb1__law_all_rows
def fb2__law_all_rows : MS := (sSeq (sSet 3 (mVal (mLst aNil))) (sSeq f1__law_all_rows (sSet 1 (mVar 3))))
def f2__law_all_rows : MS := sFor (mBind (aCons (mBind (aCons (mVar 0) aNil) (one fLen)) aNil) (one fRng1)) (gSet 2) fb2__law_all_rows
def b__law_all_rows : MS := (sSeq (sSet 1 (mVal (mLst (aCons (mTup aNil) aNil)))) (sSeq f2__law_all_rows (sRet (mVar 1))))
def m__law_all_rows : MF := mFun 1 6 b__law_all_rows
def c1__law_medians : Ma O := mLc (mBind (mVar 0) frzSeq) [5] (gSet 5) mYes (mCall m__law_off [0, 1] [] 2 (aCons (mVar 5) (aCons (mVar 1) aNil)))
def c2__law_medians : Ma O := mLc (mBind (mVar 2) frzSeq) [7] (gSet 7) mYes (m2 fDGet (mVar 7) (mVar 6))
def c3__law_medians : Ma O := mLc (mBind (mVar 3) frzSeq) [6] (gSet 6) mYes (mBind (aCons (mVal (c2__law_medians)) aNil) (one fSum))
def c4__law_medians : Ma O := mLc (mBind (aCons (mVar 3) (aCons (mVar 4) aNil)) (two fZip)) [6, 8] (gTupl 2 (gMore (gSet 6) (gMore (gSet 8) gNone))) (mTest (m2 fEq (mVar 8) (mBind (aCons (mVar 4) aNil) (one fMin)))) (mVar 6)
def b__law_medians : MS := (sSeq (sSet 2 (mVal (c1__law_medians))) (sSeq (sSet 3 (mCall m__law_all_rows [0] [] 1 (aCons (m2 fIx (mVar 0) (mC (.int 0))) aNil))) (sSeq (sSet 4 (mVal (c3__law_medians))) (sRet (mTup (aCons (mBind (aCons (mVar 4) aNil) (one fMin)) (aCons (mBind (aCons (mVal (c4__law_medians)) aNil) (one fTuple)) aNil)))))))
def m__law_medians : MF := mFun 2 9 b__law_medians
def b_is_whole : MS := (sRet (vAnd (mBind (aCons (mVar 0) (aCons (mC (.ty .int)) aNil)) (two fIsi)) (vNot (mBind (aCons (mVar 0) (aCons (mC (.ty .bl)) aNil)) (two fIsi)))))
def m_is_whole : MF := mFun 1 1 b_is_whole
def b_is_between : MS := (sRet (vAnd (mCall m_is_whole [0] [] 1 (aCons (mVar 0) aNil)) (mChain fLe fLe (mVar 1) (mVar 0) (mVar 2))))
def m_is_between : MF := mFun 3 3 b_is_between
def b_is_kinds : MS := (sRet (mCall m_is_between [0, 1, 2] [] 3 (aCons (mVar 0) (aCons (mC (.int 2)) (aCons (mC (.int 4)) aNil)))))
def m_is_kinds : MF := mFun 1 1 b_is_kinds
def b_check_kinds : MS := (sIf (mNot (mTest (mCall m_is_kinds [0] [] 1 (aCons (mVar 0) aNil)))) sBad sSkip)
def m_check_kinds : MF := mFun 1 1 b_check_kinds
def b_is_row_values : MS := (sRet (vAnd (mBind (aCons (mVar 0) (aCons (mC (.ty .tup)) aNil)) (two fIsi)) (mChain fLe fLe (mVar 1) (mBind (aCons (mVar 0) aNil) (one fLen)) (mVar 2))))
def m_is_row_values : MF := mFun 3 3 b_is_row_values
def b_is_kind : MS := (sRet (mCall m_is_between [0, 1, 2] [] 3 (aCons (mVar 1) (aCons (mC (.int 0)) (aCons (m2 fSub (mVar 0) (mC (.int 1))) aNil)))))
def m_is_kind : MF := mFun 2 2 b_is_kind
def c1_is_row_wants : Ma O := mLc (mBind (mVar 1) frzSeq) [2] (gSet 2) mYes (mCall m_is_kind [0, 1] [] 2 (aCons (mVar 0) (aCons (mVar 2) aNil)))
def b_is_row_wants : MS := (sSeq (sIf (mOr (mNot (mTest (mBind (aCons (mVar 1) (aCons (mC (.ty .tup)) aNil)) (two fIsi)))) (mNot (mTest (mChain fLe fLe (mC (.int 1)) (mBind (aCons (mVar 1) aNil) (one fLen)) (mC (.int 7)))))) (sRet (mC (.bl false))) sSkip) (sRet (mBind (aCons (mVal (c1_is_row_wants)) aNil) (one fAll))))
def m_is_row_wants : MF := mFun 2 3 b_is_row_wants
def b_is_goal : MS := (sRet (vAnd (mCall m_is_row_wants [0, 1] [] 2 (aCons (mVar 0) (aCons (mVar 2) aNil))) (m2 fEq (mVal (mBind (aCons (mVar 2) aNil) (one fSort))) (mVal (mBind (aCons (mVar 1) aNil) (one fSort))))))
def m_is_goal : MF := mFun 3 3 b_is_goal
def b_is_string : MS := (sRet (mBind (aCons (mVar 0) (aCons (mC (.ty .str)) aNil)) (two fIsi)))
def m_is_string : MF := mFun 1 1 b_is_string
def b_is_way : MS := (sRet (vAnd (mCall m_is_string [0] [] 1 (aCons (mVar 0) aNil)) (m2 (fIn false) (mVar 0) (mC (.ktp ((["any", "near", "move", "front"] : List Str).map .str))))))
def m_is_way : MF := mFun 1 1 b_is_way
def b_check_way : MS := (sIf (mNot (mTest (mCall m_is_way [0] [] 1 (aCons (mVar 0) aNil)))) sBad sSkip)
def m_check_way : MF := mFun 1 1 b_check_way
def fb1_check_rows : MS := (sIf (mOr (mNot (mTest (mCall m_is_row_wants [0, 1] [] 2 (aCons (mVar 0) (aCons (mVar 3) aNil))))) (mOr (mNot (mTest (mCall m_is_row_wants [0, 1] [] 2 (aCons (mVar 0) (aCons (m2 fIx (mVar 1) (mC (.int 0))) aNil))))) (mNot (mTest (mCall m_is_goal [0, 1, 2] [] 3 (aCons (mVar 0) (aCons (m2 fIx (mVar 1) (mC (.int 0))) (aCons (mVar 3) aNil)))))))) sBad sSkip)
def f1_check_rows : MS := sFor (mBind (mVar 1) frzSeq) (gSet 3) fb1_check_rows
def b_check_rows : MS := (sSeq (sDo (mCall m_check_kinds [0] [] 1 (aCons (mVar 0) aNil))) (sSeq (sIf (mNot (mTest (mCall m_is_row_values [0, 1, 2] [] 3 (aCons (mVar 1) (aCons (mC (.int 1)) (aCons (mC (.int 6)) aNil)))))) sBad sSkip) (sSeq f1_check_rows (sDo (mCall m_check_way [0] [] 1 (aCons (mVar 2) aNil))))))
def m_check_rows : MF := mFun 3 4 b_check_rows
def c1_pairs_of : Ma O := mLc (mBind (aCons (mVar 2) aNil) (one fRng1)) [6] (gSet 6) mYes (mTup (aCons (mVar 6) (aCons (m2 fAdd (mVar 6) (mC (.int 1))) aNil)))
def c2_pairs_of : Ma O := mLc (mBind (aCons (mVar 2) aNil) (one fRng1)) [6] (gSet 6) mYes (mTup (aCons (mVar 6) (aCons (m2 fAdd (mVar 6) (mC (.int 1))) aNil)))
def c3_pairs_of : Ma O := mLc (mBind (aCons (mC (.int 1)) (aCons (mBind (aCons (mVar 0) aNil) (one fLen)) aNil)) (two fRng2)) [6] (gSet 6) mYes (mTup (aCons (mC (.int 0)) (aCons (mVar 6) aNil)))
def c4_pairs_of : Ma O := mLc2 (mBind (aCons (mBind (aCons (mVar 0) aNil) (one fLen)) aNil) (one fRng1)) [4, 5] [5] (gSet 4) mYes (mBind (aCons (mBind (aCons (mVar 0) aNil) (one fLen)) aNil) (one fRng1)) (gSet 5) (mTest (m2 fNe (mVar 4) (mVar 5))) (mTup (aCons (mVar 4) (aCons (mVar 5) aNil)))
def c5_pairs_of : Ma O := mLc (mBind (mVar 3) frzSeq) [4, 5] (gTupl 2 (gMore (gSet 4) (gMore (gSet 5) gNone))) (mTest (m2 fLt (mVar 4) (mVar 5))) (mTup (aCons (mVar 4) (aCons (mVar 5) aNil)))
def b_pairs_of : MS := (sSeq (sSet 2 (m2 fSub (mBind (aCons (mVar 0) aNil) (one fLen)) (mC (.int 1)))) (sSeq (sIf (mTest (m2 fEq (mVar 1) (mC (.str "near")))) (sRet (mVal (c1_pairs_of))) sSkip) (sSeq (sIf (mTest (m2 fEq (mVar 1) (mC (.str "ring")))) (sRet (m2 fAdd (mVal (c2_pairs_of)) (mVal (mIfB (mTest (m2 fGt (mVar 2) (mC (.int 1)))) (mLst (aCons (mTup (aCons (mC (.int 0)) (aCons (mVar 2) aNil))) aNil)) (mLst aNil))))) sSkip) (sSeq (sIf (mTest (m2 (fIn false) (mVar 1) (mTup (aCons (mC (.str "front")) (aCons (mC (.str "flip")) aNil))))) (sRet (mVal (c3_pairs_of))) sSkip) (sSeq (sSet 3 (mVal (c4_pairs_of))) (sRet (mIfB (mTest (m2 fEq (mVar 1) (mC (.str "move")))) (mVar 3) (mVal (c5_pairs_of)))))))))
def m_pairs_of : MF := mFun 2 7 b_pairs_of
def b_shifted : MS := (sSeq (sSet 3 (mVal (mLst (aStar (mSl (mVar 0) oNone (oSome (mVar 1))) (aStar (mSl (mVar 0) (oSome (m2 fAdd (mVar 1) (mC (.int 1)))) oNone) aNil))))) (sRet (mTup (aStar (mSl (mVar 3) oNone (oSome (mVar 2))) (aCons (m2 fIx (mVar 0) (mVar 1)) (aStar (mSl (mVar 3) (oSome (mVar 2)) oNone) aNil))))))
def m_shifted : MF := mFun 3 4 b_shifted
def b_put_in_each : MS := (sSeq (sOwn 3 (mBind (aCons (mVar 0) aNil) (one fListO))) (sSeq (sAsg (mTup (aCons (m2 fIx (mVar 0) (mVar 2)) (aCons (m2 fIx (mVar 0) (mVar 1)) aNil))) (gTupl 2 (gMore (gItem (mVar 3) (mVar 1)) (gMore (gItem (mVar 3) (mVar 2)) gNone)))) (sRet (mBind (aCons (mVar 3) aNil) (one fTuple)))))
def m_put_in_each : MF := mFun 3 4 b_put_in_each
def b_done_by : MS := (sSeq (sIf (mTest (m2 (fIn false) (mVar 1) (mC (.ktp ((["stretch", "flip"] : List Str).map .str))))) (sRet mBad) sSkip) (sSeq (sIf (mTest (m2 fEq (mVar 1) (mC (.str "move")))) (sRet (mCall m_shifted [0, 1, 2] [] 3 (aCons (mVar 0) (aCons (m2 fIx (mVar 2) (mC (.int 0))) (aCons (m2 fIx (mVar 2) (mC (.int 1))) aNil))))) sSkip) (sSeq (sIf (mTest (m2 fEq (mVar 1) (mC (.str "front")))) (sRet (mCall m_shifted [0, 1, 2] [] 3 (aCons (mVar 0) (aCons (m2 fIx (mVar 2) (mC (.int 1))) (aCons (mC (.int 0)) aNil))))) sSkip) (sRet (mCall m_put_in_each [0, 1, 2] [] 3 (aCons (mVar 0) (aCons (m2 fIx (mVar 2) (mC (.int 0))) (aCons (m2 fIx (mVar 2) (mC (.int 1))) aNil))))))))
def m_done_by : MF := mFun 3 3 b_done_by
def fb1_far_from : MS := (sSeq (sSet 7 (mCall m_done_by [0, 1, 2] [] 3 (aCons (mVar 6) (aCons (mVar 1) (aCons (mVar 5) aNil))))) (sIf (mTest (m2 (fDIn true) (mVar 7) (mVar 2))) (sSeq (sDPutM (mVar 2) (mVar 7) (m2 fAdd (m2 fDGet (mVar 2) (mVar 6)) (mC (.int 1)))) (sDo (mMeth (mVar 3) (aCons (mVar 7) aNil) fAppend))) sSkip))
def f1_far_from : MS := sFor (mBind (mCall m_pairs_of [0, 1] [] 2 (aCons (mVar 6) (aCons (mVar 1) aNil))) frzSeq) (gSet 5) fb1_far_from
def wb1_far_from : MS := (sSeq (sPar [6, 4] (pCons (pV (m2 fIx (mVar 3) (mVar 4))) (pCons (pV (m2 fAdd (mVar 4) (mC (.int 1)))) pNil))) f1_far_from)
def w1_far_from : MS := whileL (mTest (m2 fLt (mVar 4) (mBind (aCons (mVar 3) aNil) (one fLen)))) wb1_far_from 1000
def b_far_from : MS := (sSeq (sPar [2, 3, 4] (pCons (pO (mDOne (mVar 0) (mC (.int 0)))) (pCons (pO (mLst (aCons (mVar 0) aNil))) (pCons (pV (mC (.int 0))) pNil)))) (sSeq w1_far_from (sRet (mFrz 2))))
def m_far_from : MF := mFun 2 8 b_far_from
def fb1_sums_by : MS := (sDPutM (mVar 2) (mVar 4) (m2 fAdd (mDGet2 (mVar 2) (mVar 4) (mC (.int 0))) (mVar 5)))
def f1_sums_by : MS := sFor (mBind (mCall m_far_from [0, 1] [] 2 (aCons (mVar 3) (aCons (mVar 1) aNil))) fItems) (gTupl 2 (gMore (gSet 4) (gMore (gSet 5) gNone))) fb1_sums_by
def fb2_sums_by : MS := f1_sums_by
def f2_sums_by : MS := sFor (mBind (mVar 0) frzSeq) (gSet 3) fb2_sums_by
def b_sums_by : MS := (sSeq (sOwn 2 mDNew) (sSeq f2_sums_by (sRet (mFrz 2))))
def m_sums_by : MF := mFun 2 6 b_sums_by
def c1_medians_by : Ma O := mLc (mBind (mVar 2) fItems) [4, 5] (gTupl 2 (gMore (gSet 4) (gMore (gSet 5) gNone))) mYes (mVar 5)
def c2_medians_by : Ma O := mLc (mBind (mVar 2) fItems) [4, 5] (gTupl 2 (gMore (gSet 4) (gMore (gSet 5) gNone))) (mTest (m2 fEq (mVar 5) (mVar 3))) (mVar 4)
def b_medians_by : MS := (sSeq (sSet 2 (mCall m_sums_by [0, 1] [] 2 (aCons (mVar 0) (aCons (mVar 1) aNil)))) (sSeq (sSet 3 (mBind (aCons (mVal (c1_medians_by)) aNil) (one fMin))) (sRet (mTup (aCons (mVar 3) (aCons (mBind (aCons (mVal (mBind (aCons (mVal (c2_medians_by)) aNil) (one fSort))) aNil) (one fTuple)) aNil))))))
def m_medians_by : MF := mFun 2 6 b_medians_by
def b_medians : MS := (sSeq (sDo (mCall m_check_rows [0, 1, 2] [] 3 (aCons (mVar 0) (aCons (mVar 1) (aCons (mVar 2) aNil))))) (sRet (mCall m_medians_by [0, 1] [] 2 (aCons (mVar 1) (aCons (mVar 2) aNil)))))
def m_medians : MF := mFun 3 3 b_medians
def c1__law_pair_far : Ma O := mLc (mBind (aCons (mBind (aCons (mVar 0) aNil) (one fLen)) aNil) (one fRng1)) [5] (gSet 5) (mTest (m2 fNe (mVar 5) (mVar 3))) (mTup (aCons (m2 fDGet (mVar 4) (m2 fIx (mVar 0) (mVar 5))) (aCons (mTup (aCons (mVar 3) (aCons (mVar 5) aNil))) aNil)))
def fb1__law_pair_far : MS := (sSeq (sSet 4 (mCall m__law_off [0, 1] [] 2 (aCons (m2 fIx (mVar 0) (mVar 3)) (aCons (mVar 1) aNil)))) (sSet 2 (m2 fAdd (mVar 2) (mVal (c1__law_pair_far)))))
def f1__law_pair_far : MS := sFor (mBind (aCons (mBind (aCons (mVar 0) aNil) (one fLen)) aNil) (one fRng1)) (gSet 3) fb1__law_pair_far
def b__law_pair_far : MS := (sSeq (sSet 2 (mVal (mLst aNil))) (sSeq f1__law_pair_far (sRet (mVar 2))))
def m__law_pair_far : MF := mFun 2 6 b__law_pair_far
def wb1__law_lowest : MS := (sPar [2, 3] (pCons (pV (mVar 3)) (pCons (pV (m2 fMod (mBind (aCons (mVar 2) aNil) (one fIntO)) (mVar 3))) pNil)))
def w1__law_lowest : MS := whileL (mTest (m2 fGt (mVar 3) (mC (.int 0)))) wb1__law_lowest 1000
def b__law_lowest : MS := (sSeq (sPar [2, 3] (pCons (pV (mVar 0)) (pCons (pV (mVar 1)) pNil))) (sSeq w1__law_lowest (sRet (mTup (aCons (m2 fDiv (mVar 0) (mVar 2)) (aCons (m2 fDiv (mVar 1) (mVar 2)) aNil))))))
def m__law_lowest : MF := mFun 2 4 b__law_lowest
def b_lowest : MS := (sSeq (sSet 2 (mIfB (mTest (m2 fGt (mVar 1) (mC (.int 0)))) (mBind (aCons (mVar 0) (aCons (mVar 1) aNil)) (two fGcd)) mBad)) (sRet (mTup (aCons (m2 fDiv (mVar 0) (mVar 2)) (aCons (m2 fDiv (mVar 1) (mVar 2)) aNil)))))
def m_lowest : MF := mFun 2 3 b_lowest
def c1_mean_by : Ma O := mLc2 (mBind (aCons (mVar 0) aNil) (one fEnumT)) [3, 4, 5, 6] [5, 6] (gTupl 2 (gMore (gSet 3) (gMore (gSet 4) gNone))) mYes (mBind (aCons (mVar 0) aNil) (one fEnumT)) (gTupl 2 (gMore (gSet 5) (gMore (gSet 6) gNone))) (mTest (m2 fNe (mVar 3) (mVar 5))) (m2 fDGet (mCall m_far_from [0, 1] [] 2 (aCons (mVar 4) (aCons (mVar 1) aNil))) (mVar 6))
def b_mean_by : MS := (sSeq (sSet 2 (mVal (c1_mean_by))) (sRet (mIfB (mTest (m2 fNe (mVar 2) (mVal (mLst aNil)))) (mCall m_lowest [0, 1] [] 2 (aCons (mBind (aCons (mVar 2) aNil) (one fSum)) (aCons (mBind (aCons (mVar 2) aNil) (one fLen)) aNil))) (mC (.non)))))
def m_mean_by : MF := mFun 2 7 b_mean_by
def b_mean_far : MS := (sSeq (sDo (mCall m_check_rows [0, 1, 2] [] 3 (aCons (mVar 0) (aCons (mVar 1) (aCons (mVar 2) aNil))))) (sRet (mCall m_mean_by [0, 1] [] 2 (aCons (mVar 1) (aCons (mVar 2) aNil)))))
def m_mean_far : MF := mFun 3 3 b_mean_far
def fb1_widest_by : MS := (sIf (mAnd (mTest (m2 fNe (mVar 3) (mVar 6))) (mTest (m2 fGt (m2 fDGet (mVar 5) (mVar 7)) (m2 fIx (mVar 2) (mC (.int 0)))))) (sSet 2 (mTup (aCons (m2 fDGet (mVar 5) (mVar 7)) (aCons (mTup (aCons (mVar 3) (aCons (mVar 6) aNil))) aNil)))) sSkip)
def f1_widest_by : MS := sFor (mBind (aCons (mVar 0) aNil) (one fEnumT)) (gTupl 2 (gMore (gSet 6) (gMore (gSet 7) gNone))) fb1_widest_by
def fb2_widest_by : MS := (sSeq (sSet 5 (mCall m_far_from [0, 1] [] 2 (aCons (mVar 4) (aCons (mVar 1) aNil)))) f1_widest_by)
def f2_widest_by : MS := sFor (mBind (aCons (mVar 0) aNil) (one fEnumT)) (gTupl 2 (gMore (gSet 3) (gMore (gSet 4) gNone))) fb2_widest_by
def b_widest_by : MS := (sSeq (sSet 2 (mTup (aCons (mC (.int 0)) (aCons (mC (.non)) aNil)))) (sSeq f2_widest_by (sRet (mVar 2))))
def m_widest_by : MF := mFun 2 8 b_widest_by
def b_widest_pair : MS := (sSeq (sDo (mCall m_check_rows [0, 1, 2] [] 3 (aCons (mVar 0) (aCons (mVar 1) (aCons (mVar 2) aNil))))) (sRet (mCall m_widest_by [0, 1] [] 2 (aCons (mVar 1) (aCons (mVar 2) aNil)))))
def m_widest_pair : MF := mFun 3 3 b_widest_pair
def fb1__law_right : MS := (sSet 11 (m2 fAdd (mVar 11) (mTup (aCons (mIfB (mTest (m2 fGt (mCall m__law_take [0, 1] [] 2 (aCons (mVar 0) (aCons (mC (.int 4)) aNil))) (mC (.int 0)))) (mCall m__law_mixed [0, 1] [] 2 (aCons (mVar 0) (aCons (mVar 9) aNil))) (mVar 9)) aNil))))
def f1__law_right : MS := sFor (mBind (aCons (mCall m__law_take [0, 1] [] 2 (aCons (mVar 0) (aCons (mC (.int 6)) aNil))) aNil) (one fRng1)) (gSet 1) fb1__law_right
def c1__law_right : Ma O := mLc (mBind (mVar 3) frzSeq) [12, 13] (gTupl 2 (gMore (gSet 12) (gMore (gSet 13) gNone))) mYes (mVar 12)
def c2__law_right : Ma O := mLc (mBind (mVar 3) frzSeq) [12, 13] (gTupl 2 (gMore (gSet 12) (gMore (gSet 13) gNone))) mYes (mVar 12)
def c3__law_right : Ma O := mLc (mBind (mVar 3) frzSeq) [12, 13] (gTupl 2 (gMore (gSet 12) (gMore (gSet 13) gNone))) (mTest (m2 fEq (mVar 12) (mVar 6))) (mVar 13)
def b__law_right : MS := (sSeq (sAsg (mCall m__law_row [0, 1] [] 2 (aCons (mVar 0) (aCons (mC (.int 4)) aNil))) (gTupl 2 (gMore (gSet 8) (gMore (gSet 9) gNone)))) (sSeq (sPar [10, 11] (pCons (pV (mCall m__law_way [0] [] 1 (aCons (mVar 0) aNil))) (pCons (pV (mTup (aCons (mVar 9) aNil))) pNil))) (sSeq f1__law_right (sSeq (sSet 2 (mCall m__law_medians [0, 1] [] 2 (aCons (mVar 11) (aCons (mVar 10) aNil)))) (sSeq (sIf (mTest (m2 fNe (mBind (aCons (mVal (mLst (aCons (mCall m_medians [0, 1, 2] [] 3 (aCons (mVar 8) (aCons (mVar 11) (aCons (mVar 10) aNil)))) (aCons (mCallK m_medians [2, 1, 0] [] 0 3 aNil (aCons (mVar 10) (aCons (mVar 11) (aCons (mVar 8) aNil)))) aNil)))) aNil) (one fRepr)) (mBind (aCons (mVal (mLst (aCons (mVar 2) (aCons (mVar 2) aNil)))) aNil) (one fRepr)))) (sRet (mC (.bl false))) sSkip) (sSeq (sSet 3 (mCall m__law_pair_far [0, 1] [] 2 (aCons (mVar 11) (aCons (mVar 10) aNil)))) (sSeq (sSet 4 (mBind (aCons (mVal (c1__law_right)) aNil) (one fSum))) (sSeq (sSet 5 (mC (.non))) (sSeq (sIf (mTest (m2 fNe (mVar 3) (mVal (mLst aNil)))) (sSet 5 (mIfB (mTest (m2 fGt (mVar 4) (mC (.int 0)))) (mCall m__law_lowest [0, 1] [] 2 (aCons (mVar 4) (aCons (mBind (aCons (mVar 3) aNil) (one fLen)) aNil))) (mTup (aCons (mC (.int 0)) (aCons (mC (.int 1)) aNil))))) sSkip) (sSeq (sIf (mTest (m2 fNe (mBind (aCons (mVal (mLst (aCons (mCall m_mean_far [0, 1, 2] [] 3 (aCons (mVar 8) (aCons (mVar 11) (aCons (mVar 10) aNil)))) (aCons (mCallK m_mean_far [2, 1, 0] [] 0 3 aNil (aCons (mVar 10) (aCons (mVar 11) (aCons (mVar 8) aNil)))) aNil)))) aNil) (one fRepr)) (mBind (aCons (mVal (mLst (aCons (mVar 5) (aCons (mVar 5) aNil)))) aNil) (one fRepr)))) (sRet (mC (.bl false))) sSkip) (sSeq (sSet 6 (mBind (aCons (m2 fAdd (mVal (mLst (aCons (mC (.int 0)) aNil))) (mVal (c2__law_right))) aNil) (one fMax))) (sSeq (sSet 7 (mIfB (mTest (m2 fEq (mVar 6) (mC (.int 0)))) (mTup (aCons (mC (.int 0)) (aCons (mC (.non)) aNil))) (mTup (aCons (mVar 6) (aCons (m2 fIx (mVal (c3__law_right)) (mC (.int 0))) aNil))))) (sRet (m2 fEq (mBind (aCons (mVal (mLst (aCons (mCall m_widest_pair [0, 1, 2] [] 3 (aCons (mVar 8) (aCons (mVar 11) (aCons (mVar 10) aNil)))) (aCons (mCallK m_widest_pair [2, 1, 0] [] 0 3 aNil (aCons (mVar 10) (aCons (mVar 11) (aCons (mVar 8) aNil)))) aNil)))) aNil) (one fRepr)) (mBind (aCons (mVal (mLst (aCons (mVar 7) (aCons (mVar 7) aNil)))) aNil) (one fRepr))))))))))))))))
def m__law_right : MF := mFun 1 14 b__law_right
def c1_law : Ma O := mLc (mBind (aCons (mC (.int 6)) aNil) (one fRng1)) [3] (gSet 3) mYes (mCall m__law_right [0] [] 1 (aCons (mVar 2) aNil))
def fb1_law : MS := (sSeq (sSet 2 (mCall m__law_bag [0, 1] [] 2 (aCons (mVar 0) (aCons (mVar 1) aNil)))) (sIf (mNot (mTest (mBind (aCons (mVal (c1_law)) aNil) (one fAll)))) (sRet (mC (.bl false))) sSkip))
def f1_law : MS := sFor (mBind (aCons (mBind (aCons (mC (.int 2)) (aCons (mBind (aCons (mBind (aCons (mVar 0) aNil) (one fLen)) (aCons (mC (.int 3)) aNil)) (two fMin2)) aNil)) (two fMax2)) aNil) (one fRng1)) (gSet 1) fb1_law
def b_law : MS := (sSeq f1_law (sRet (mC (.bl true))))
def m_law : MF := mFun 1 4 b_law
end G

set_option maxRecDepth 100000
set_option maxHeartbeats 4000000
namespace G
open PySem PySem.Spec PyProof.Rows L2 Ev Ty
/-- the store holds a bag at n -/
def Bag (n : Nat) (μ : Mu) : Prop := ∃ b0 b1 b2 : Int, μ[n]? = some (.lst [.int b0, .int b1, .int b2])
theorem ix3 (x y z : D) : atI [x, y, z] 0 = some x ∧ atI [x, y, z] 1 = some y ∧ atI [x, y, z] 2 = some z := ⟨rfl, rfl, rfl⟩
theorem ixn3 : ixN 3 0 = some 0 ∧ ixN 3 1 = some 1 ∧ ixN 3 2 = some 2 := ⟨rfl, rfl, rfl⟩
theorem szD_of {j : Int} (h : 0 < j) (h2 : j < 1073741824) : szD j = true := Nat.ble_eq_true_of_le (by omega)
theorem take_ok {n : Nat} {μ : Mu} {top : Int} (h : Bag n μ) (t0 : 0 < top) (t1 : top < 1073741824) : ∃ (r : Int) (μ' : Mu), m__law_take [.ref n, .int top] μ = .ok (.int r) μ' ∧ 0 ≤ r ∧ r < top ∧ Bag n μ' := by
  obtain ⟨b0, b1, b2, h⟩ := h
  have hn : n < μ.length := (List.getElem?_eq_some_iff.mp h).1
  have set_at : ∀ o : O, (μ.set n o)[n]? = some o := fun o => by rw [List.getElem?_set_self hn]
  have set2 : ∀ o o' : O, (μ.set n o).set n o' = μ.set n o' := fun o o' => by rw [List.set_set]
  have d0 : decide (0 < top) = true := decide_eq_true t0
  have d1 : szD top = true := szD_of t0 t1
  have c0 : decide ((0 : Int) < 2147483647) = true := by decide
  have c1 : decide ((0 : Int) < 911) = true := by decide
  have c2 : szD 911 = true := rfl
  unfold m__law_take mFun b__law_take
  by_cases hb : 0 < b0
  · have hb' := decide_eq_true hb
    refine ⟨b0 % top, μ.set n (.lst [.int (b0 / top), .int b1, .int b2]), ?_, Int.emod_nonneg _ (by omega), Int.emod_lt_of_pos _ t0, b0 / top, b1, b2, set_at _⟩
    simp only [mFun, outF, en0, sSeq, sIf, sExp, sSkip, sRet, sSet, sOwn, sDo, sAsg, sFor, sPar, setsE, pV, pO, pNil, pCons, mTest, mOfB, mIfB, mAnd, mOr, mNot, vAnd, vOr, vNot, toB, m1, m2, mBind, Rs.bind, pOk, mVar, mC, mVal, O.val, mFrz, mAlloc, mTup, mLst, aCons, aNil, aStar, one, two, fIx, seqE, contE, contW, O.items, fInt, fAdd, fSub, fMul, fMod, fDiv, fLt, fLe, fGt, fGe, fDivmod, fIntO, fAbs, fLen, fListO, fTuple, frzSeq, gSet, gTupl, tupI, gMore, gNone, gItem, putE, putM, D.plain, plains, D.isTup, lstX, mChain, negB, mCall, mCallK, fCall, retC, pickL, mMeth, mYes, Nat.beq, List.length_cons, List.length_nil, List.map_cons, List.map_nil, List.getElem?_cons_zero, List.getElem?_cons_succ, List.getD_cons_zero, List.getD_cons_succ, List.set_cons_zero, List.set_cons_succ, List.cons_append, List.nil_append, List.append_nil, List.replicate_succ, List.replicate_zero, Bool.and_true, Bool.true_and, Nat.sub_self, Nat.add_sub_cancel, Option.bind_some, Option.bind_none, Option.map_some, Option.map_none, Nat.zero_add, h, hb', d0, d1, (ix3 _ _ _).1, ixn3.1]
  · have hb' := decide_eq_false hb
    refine ⟨(b1 * 16807 + 4099 * (b2 + 1) + 1) % 2147483647 / 911 % top, μ.set n (.lst [.int b0, .int ((b1 * 16807 + 4099 * (b2 + 1) + 1) % 2147483647), .int (b2 + 1)]), ?_, Int.emod_nonneg _ (by omega), Int.emod_lt_of_pos _ t0, _, _, _, set_at _⟩
    have e1 : mulB b1 16807 = true := (show (szM b1 || szM 16807) = true by rw [show szM 16807 = true from rfl, Bool.or_true])
    have e2 : mulB 4099 (b2 + 1) = true := (show (szM 4099 || szM (b2 + 1)) = true by rw [show szM 4099 = true from rfl, Bool.true_or])
    simp only [mFun, outF, en0, sSeq, sIf, sExp, sSkip, sRet, sSet, sOwn, sDo, sAsg, sFor, sPar, setsE, pV, pO, pNil, pCons, mTest, mOfB, mIfB, mAnd, mOr, mNot, vAnd, vOr, vNot, toB, m1, m2, mBind, Rs.bind, pOk, mVar, mC, mVal, O.val, mFrz, mAlloc, mTup, mLst, aCons, aNil, aStar, one, two, fIx, seqE, contE, contW, O.items, fInt, fAdd, fSub, fMul, fMod, fDiv, fLt, fLe, fGt, fGe, fDivmod, fIntO, fAbs, fLen, fListO, fTuple, frzSeq, gSet, gTupl, tupI, gMore, gNone, gItem, putE, putM, D.plain, plains, D.isTup, lstX, mChain, negB, mCall, mCallK, fCall, retC, pickL, mMeth, mYes, Nat.beq, List.length_cons, List.length_nil, List.map_cons, List.map_nil, List.getElem?_cons_zero, List.getElem?_cons_succ, List.getD_cons_zero, List.getD_cons_succ, List.set_cons_zero, List.set_cons_succ, List.cons_append, List.nil_append, List.append_nil, List.replicate_succ, List.replicate_zero, Bool.and_true, Bool.true_and, Nat.sub_self, Nat.add_sub_cancel, Option.bind_some, Option.bind_none, Option.map_some, Option.map_none, Nat.zero_add, h, hb', d0, d1, (ix3 _ _ _).1, (ix3 _ _ _).2.1, (ix3 _ _ _).2.2, ixn3.1, ixn3.2.1, ixn3.2.2, set_at, set2, e1, e2, c0, c1, c2]
def t__law_take (_ : Unit) (top : Int) : W Unit Int := drawW top
theorem T__law_take (k : Nat) : WF (PoolI k) m__law_take (qc (cRk k) (q1 cI)) cI (fun x => t__law_take x.1 x.2) := fun a μ s Q E hi hw => by
  obtain ⟨h1, h2, h3⟩ := hw
  obtain ⟨r, μ', e, h4, h5, h6⟩ := take_ok hi h1 h2
  show RWF _ (m__law_take [.ref k, .int a.2] μ) cI Q E
  rw [e]
  exact ⟨r, s, rfl, h6, h3 r h4 h5⟩
end G

set_option maxRecDepth 100000
set_option maxHeartbeats 4000000
namespace G
open PySem PySem.Spec PyProof.Rows L2 Ev Ty
def t__law_bag (p_script : (List Int)) (p_lap : Int) : Rt (List Int) := (Rt.bind (Rt.bind (mulR (8009 : Int) p_lap) fun x_79 => (.ok ((52027 : Int) + x_79))) fun stirred_80 => (Rt.bind (forT (Ev.cutD p_script none (some (16 : Int))) stirred_80 (fun (s_85 : Int) (x_86 : Int) => (Rt.bind (Rt.bind (Rt.bind (Rt.bind (Rt.bind (mulR s_85 (48271 : Int)) fun x_92 => (Rt.bind (modR x_86 (2147483629 : Int)) fun x_93 => (.ok (x_92 + x_93)))) fun x_94 => (.ok (x_94 + (23 : Int)))) fun x_96 => (.ok x_96)) fun x_97 => modR x_97 (2147483647 : Int)) fun stirred_99 => (.ok stirred_99)))) fun s_100 => (Rt.bind (cond (decide (p_lap < (p_script.length : Int))) (Rt.bind (ixR p_script p_lap) fun x_106 => (.ok x_106)) (.ok (0 : Int))) fun own_108 => (Rt.bind (Rt.bind (Rt.bind (Rt.bind (Rt.bind (mulR s_100 (31 : Int)) fun x_116 => (Rt.bind (Rt.bind (modR own_108 (2147483629 : Int)) fun x_114 => mulR x_114 (17 : Int)) fun x_117 => (.ok (x_116 + x_117)))) fun x_118 => (.ok (x_118 + (3 : Int)))) fun x_120 => (.ok x_120)) fun x_121 => modR x_121 (2147483647 : Int)) fun stirred_123 => (Rt.bind (Rt.bind (Rt.bind (cond (decide (own_108 < (0 : Int))) (.ok true) (Rt.bind (powR (10 : Int) (15 : Int)) fun x_129 => (.ok (decide (x_129 ≤ own_108))))) fun k_132 => cond k_132 (.ok (if own_108 < 0 then -own_108 else own_108)) (.ok (0 : Int))) fun x_137 => .ok (x_137 :: (stirred_123 :: ((0 : Int) :: ([] : List Int))))) lineR)))))
theorem B__law_bag (p_script : (List Int)) (p_lap : Int) : TAl 5 [(0, .val ((cScr cI).d p_script)), (1, .val (cI.d p_lap))] b__law_bag (Rt.bind (Rt.bind (.ok (52027 : Int)) fun x_78 => (Rt.bind (Rt.bind (.ok (8009 : Int)) fun x_76 => (Rt.bind (.ok p_lap) fun x_77 => mulR x_76 x_77)) fun x_79 => (.ok (x_78 + x_79)))) fun stirred_80 => (Rt.bind (Rt.bind (Rt.bind (.ok p_script) fun x_82 => (Rt.bind (.ok none) fun x_83 => (Rt.bind (Rt.bind (.ok (16 : Int)) fun x_81 => (.ok (some x_81))) fun x_84 => (.ok (Ev.cutD x_82 x_83 x_84))))) fun xs_139 => forT xs_139 stirred_80 (fun (s_85 : Int) (x_86 : Int) => (Rt.bind (Rt.bind (Rt.bind (Rt.bind (Rt.bind (Rt.bind (.ok s_85) fun x_87 => (Rt.bind (.ok (48271 : Int)) fun x_88 => mulR x_87 x_88)) fun x_92 => (Rt.bind (Rt.bind (Rt.bind (.ok x_86) fun x_89 => (.ok x_89)) fun x_90 => (Rt.bind (.ok (2147483629 : Int)) fun x_91 => modR x_90 x_91)) fun x_93 => (.ok (x_92 + x_93)))) fun x_94 => (Rt.bind (.ok (23 : Int)) fun x_95 => (.ok (x_94 + x_95)))) fun x_96 => (.ok x_96)) fun x_97 => (Rt.bind (.ok (2147483647 : Int)) fun x_98 => modR x_97 x_98)) fun stirred_99 => (.ok stirred_99)))) fun s_100 => (Rt.bind (Rt.bind (Rt.bind (.ok p_lap) fun x_102 => (Rt.bind (Rt.bind (.ok p_script) fun x_101 => (.ok (x_101.length : Int))) fun x_103 => (.ok (decide (x_102 < x_103))))) fun k_107 => cond k_107 (Rt.bind (Rt.bind (.ok p_script) fun x_104 => (Rt.bind (.ok p_lap) fun x_105 => ixR x_104 x_105)) fun x_106 => (.ok x_106)) (.ok (0 : Int))) fun own_108 => (Rt.bind (Rt.bind (Rt.bind (Rt.bind (Rt.bind (Rt.bind (.ok s_100) fun x_109 => (Rt.bind (.ok (31 : Int)) fun x_110 => mulR x_109 x_110)) fun x_116 => (Rt.bind (Rt.bind (Rt.bind (Rt.bind (.ok own_108) fun x_111 => (.ok x_111)) fun x_112 => (Rt.bind (.ok (2147483629 : Int)) fun x_113 => modR x_112 x_113)) fun x_114 => (Rt.bind (.ok (17 : Int)) fun x_115 => mulR x_114 x_115)) fun x_117 => (.ok (x_116 + x_117)))) fun x_118 => (Rt.bind (.ok (3 : Int)) fun x_119 => (.ok (x_118 + x_119)))) fun x_120 => (.ok x_120)) fun x_121 => (Rt.bind (.ok (2147483647 : Int)) fun x_122 => modR x_121 x_122)) fun stirred_123 => (Rt.bind (Rt.bind (Rt.bind (Rt.bind (Rt.bind (.ok own_108) fun x_124 => (Rt.bind (.ok (0 : Int)) fun x_125 => (.ok (decide (x_124 < x_125))))) fun k_130 => cond k_130 (.ok true) (Rt.bind (.ok own_108) fun x_128 => (Rt.bind (Rt.bind (.ok (10 : Int)) fun x_126 => (Rt.bind (.ok (15 : Int)) fun x_127 => powR x_126 x_127)) fun x_129 => (.ok (decide (x_129 ≤ x_128)))))) fun k_132 => cond k_132 (Rt.bind (.ok own_108) fun x_131 => (.ok (if x_131 < 0 then -x_131 else x_131))) (.ok (0 : Int))) fun x_137 => Rt.bind (Rt.bind (.ok stirred_123) fun x_135 => Rt.bind (Rt.bind (.ok (0 : Int)) fun x_133 => Rt.bind (.ok ([] : List Int)) fun x_134 => .ok (x_133 :: x_134)) fun x_136 => .ok (x_135 :: x_136)) fun x_138 => .ok (x_137 :: x_138)) lineR))))) := (tal_seq (tn_set (te_op o_add te_int (te_op o_mul te_int (te_var (c := cI) rfl))) rfl) (fun stirred_80 => (tal_seq (tn_for (s0 := stirred_80) (Gs := (fun (s_85 : Int) => [(0, .val ((cScr cI).d p_script)), (1, .val (cI.d p_lap)), (2, .val (cI.d s_85))])) (ti_L (te_slScr (te_var (c := (cScr cI)) rfl) to_none (to_some te_int))) (by exact ⟨rfl, rfl, rfl, trivial⟩) (fun s_85 x_86 => (gt_set rfl)) (fun s_85 x_86 => (tn_to (fun stirred_99 => stirred_99) (tn_set (te_op o_mod (tg_one (tg_un u_int (te_op o_add (te_op o_add (te_op o_mul (te_var (c := cI) rfl) te_int) (te_op o_mod (tg_one (tg_un u_int (te_var (c := cI) rfl))) te_int)) te_int))) te_int) rfl) (fun stirred_99 => (by exact ⟨rfl, rfl, rfl, trivial⟩))))) (fun s_100 => (tal_seq (tn_set (tg_if (tt_test (te_op o_lt (te_var (c := cI) rfl) (tg_one (tg_len (ts_scr (te_var (c := (cScr cI)) rfl)))))) (tg_one (tg_un u_int (te_ix (ts_scr (te_var (c := (cScr cI)) rfl)) (te_var (c := cI) rfl)))) te_int) rfl) (fun own_108 => (tal_seq (tn_set (te_op o_mod (tg_one (tg_un u_int (te_op o_add (te_op o_add (te_op o_mul (te_var (c := cI) rfl) te_int) (te_op o_mul (te_op o_mod (tg_one (tg_un u_int (te_var (c := cI) rfl))) te_int) te_int)) te_int))) te_int) rfl) (fun stirred_123 => (tal_ret (tg_lstL (th_cons (tg_if (tt_or (tt_test (te_op o_lt (te_var (c := cI) rfl) te_int)) (tt_test (te_op o_ge (te_var (c := cI) rfl) (te_op o_pow te_int te_int)))) (tg_one (tg_un u_abs (te_var (c := cI) rfl))) te_int) (th_cons (te_var (c := cI) rfl) (th_cons te_int (th_nil (c := cI)))))))))))))))

-- _law_take: by hand
def t__law_row (p_bag : Unit) (p_most : Int) : W Unit (Int × (List Int)) := (W.bind (W.bind (t__law_take p_bag (3 : Int)) fun x_169 => (W.ok ((2 : Int) + x_169))) fun kinds_170 => (W.bind (W.bind (W.bind (W.bind (W.bind (t__law_take p_bag p_most) fun x_174 => (W.ok ((1 : Int) + x_174))) fun x_175 => (W.of (rngR1 x_175))) fun xs_179 => (W.bind (noE (lcW xs_179 (fun (x_176 : Int) => (.ok true)) (fun (x_176 : Int) => (t__law_take p_bag kinds_170)))) fun ys => W.of (lineR ys))) fun x_180 => (W.ok x_180)) fun x_182 => W.ok (kinds_170, x_182)))
theorem B__law_row (k : Nat) (p_bag : Unit) (p_most : Int) : WB (PoolI k) 4 [(0, .val ((cRk k).d p_bag)), (1, .val (cI.d p_most))] b__law_row (cP (qc cI (q1 (cT cI)))) (W.bind (W.bind (W.of (.ok (2 : Int))) fun x_168 => (W.bind (W.bind (W.of (Rt.bind (.ok p_bag) fun x_166 => Rt.bind (.ok (3 : Int)) fun x_167 => .ok (x_166, x_167))) fun x => t__law_take x.1 x.2) fun x_169 => (W.ok (x_168 + x_169)))) fun kinds_170 => (W.bind (W.of (.ok kinds_170)) fun x_181 => W.bind (W.bind (W.bind (W.bind (W.bind (W.of (.ok (1 : Int))) fun x_173 => (W.bind (W.bind (W.of (Rt.bind (.ok p_bag) fun x_171 => Rt.bind (.ok p_most) fun x_172 => .ok (x_171, x_172))) fun x => t__law_take x.1 x.2) fun x_174 => (W.ok (x_173 + x_174)))) fun x_175 => (W.of (rngR1 x_175))) fun xs_179 => (W.bind (noE (lcW xs_179 (fun (x_176 : Int) => (.ok true)) (fun (x_176 : Int) => (W.bind (W.of (Rt.bind (.ok p_bag) fun x_177 => Rt.bind (.ok kinds_170) fun x_178 => .ok (x_177, x_178))) fun x => t__law_take x.1 x.2)))) fun ys => W.of (lineR ys))) fun x_180 => (W.ok x_180)) fun x_182 => W.ok (x_181, x_182))) := (wb_seq (wn_set (we_op o_add (wg_of te_int) (we_call (T__law_take k) (wg_of (ta_cons (te_var (c := (cRk k)) rfl) (ta_one te_int))) rfl (fun _ => rfl))) rfl) (fun kinds_170 => (wb_ret (we_tupP (q := (qc cI (q1 (cT cI)))) (wa_cons (wg_of (te_var (c := cI) rfl)) (wa_one (wg_one (wg_un u_tupL (we_valL (wg_lc (wg_one (wg_un u_rng1 (we_op o_add (wg_of te_int) (we_call (T__law_take k) (wg_of (ta_cons (te_var (c := (cRk k)) rfl) (ta_one (te_var (c := cI) rfl)))) rfl (fun _ => rfl))))) rfl (fun x_176 => (gc_set rfl rfl)) (fun x_176 => tt_yes) (fun x_176 => (we_call (T__law_take k) (wg_of (ta_cons (te_var (c := (cRk k)) rfl) (ta_one (te_var (c := cI) rfl)))) rfl (fun _ => rfl))))))))) rfl))))
theorem T__law_row (k : Nat) : WF (PoolI k) m__law_row (qc (cRk k) (q1 cI)) (cP (qc cI (q1 (cT cI)))) (fun x => t__law_row x.1 x.2) := wf_b (fun a => B__law_row k a.1 a.2) rfl rfl
def t__law_pull (p_bag : Unit) (p_some : (List Str)) : W Unit Str := (W.bind (t__law_take p_bag (p_some.length : Int)) fun x_200 => (W.of (ixR p_some x_200)))
theorem B__law_pull (k : Nat) (p_bag : Unit) (p_some : (List Str)) : WB (PoolI k) 2 [(0, .val ((cRk k).d p_bag)), (1, .val ((cL cS).d p_some))] b__law_pull cS (W.bind (W.of (.ok p_some)) fun x_199 => (W.bind (W.bind (W.of (Rt.bind (.ok p_bag) fun x_197 => Rt.bind (Rt.bind (.ok p_some) fun x_196 => (.ok (x_196.length : Int))) fun x_198 => .ok (x_197, x_198))) fun x => t__law_take x.1 x.2) fun x_200 => (W.of (ixR x_199 x_200)))) := (wb_ret (we_ix (ts_L (te_var (c := (cL cS)) rfl)) (we_call (T__law_take k) (wg_of (ta_cons (te_var (c := (cRk k)) rfl) (ta_one (tg_one (tg_len (ts_L (te_var (c := (cL cS)) rfl))))))) rfl (fun _ => rfl))))
theorem T__law_pull (k : Nat) : WF (PoolI k) m__law_pull (qc (cRk k) (q1 (cL cS))) cS (fun x => t__law_pull x.1 x.2) := wf_b (fun a => B__law_pull k a.1 a.2) rfl rfl
def t__law_way (p_bag : Unit) : W Unit Str := (W.bind (W.of (Rt.bind (lineR (("any" : Str) :: (("near" : Str) :: (("move" : Str) :: (("front" : Str) :: ([] : List Str)))))) fun x_210 => .ok (p_bag, x_210))) fun x => t__law_pull x.1 x.2)
theorem B__law_way (k : Nat) (p_bag : Unit) : WB (PoolI k) 1 [(0, .val ((cRk k).d p_bag))] b__law_way cS (W.bind (W.of (Rt.bind (.ok p_bag) fun x_209 => Rt.bind (Rt.bind (Rt.bind (.ok ("any" : Str)) fun x_207 => Rt.bind (Rt.bind (.ok ("near" : Str)) fun x_205 => Rt.bind (Rt.bind (.ok ("move" : Str)) fun x_203 => Rt.bind (Rt.bind (.ok ("front" : Str)) fun x_201 => Rt.bind (.ok ([] : List Str)) fun x_202 => .ok (x_201 :: x_202)) fun x_204 => .ok (x_203 :: x_204)) fun x_206 => .ok (x_205 :: x_206)) fun x_208 => .ok (x_207 :: x_208)) lineR) fun x_210 => .ok (x_209, x_210))) fun x => t__law_pull x.1 x.2) := (wb_ret (we_call (T__law_pull k) (wg_of (ta_cons (te_var (c := (cRk k)) rfl) (ta_one (te_valL (tg_lstL (th_cons te_str (th_cons te_str (th_cons te_str (th_cons te_str (th_nil (c := cS))))))))))) rfl (fun _ => rfl)))
theorem T__law_way (k : Nat) : WF (PoolI k) m__law_way (q1 (cRk k)) cS (fun x => t__law_way x) := wf_b (fun a => B__law_way k a) rfl rfl
def t__law_mixed (p_bag : Unit) (p_row : (List Int)) : W Unit (List Int) := (W.bind (W.of (Rt.bind (lineR ([] : List Int)) fun x_228 => .ok (p_row, x_228))) fun s_229 => (W.bind (whileW 1000 (fun (s_230 : ((List Int) × (List Int))) => (W.of (Rt.bind (lineR ([] : List Int)) fun x_231 => (.ok (negB true (decide (s_230.1 = x_231))))))) (fun (s_230 : ((List Int) × (List Int))) => (W.bind (W.bind (t__law_take p_bag (s_230.1.length : Int)) fun x_239 => W.of (Rt.bind (popAt s_230.1 x_239) fun p => Rt.bind (apR s_230.2 p.1) fun zs => .ok (p.2, zs))) fun s_238 => (W.ok (s_238.1, s_238.2)))) (s_229.1, s_229.2)) fun s_240 => (W.ok s_240.2)))
theorem B__law_mixed (k : Nat) (p_bag : Unit) (p_row : (List Int)) : WB (PoolI k) 4 [(0, .val ((cRk k).d p_bag)), (1, .val ((cT cI).d p_row))] b__law_mixed (cT cI) (W.bind (W.of (Rt.bind (Rt.bind (.ok p_row) fun x_226 => (.ok x_226)) fun x_227 => Rt.bind (Rt.bind (.ok ([] : List Int)) lineR) fun x_228 => .ok (x_227, x_228))) fun s_229 => (W.bind (whileW 1000 (fun (s_230 : ((List Int) × (List Int))) => (W.of (Rt.bind (Rt.bind (.ok ([] : List Int)) lineR) fun x_231 => (.ok (negB true (decide (s_230.1 = x_231))))))) (fun (s_230 : ((List Int) × (List Int))) => (W.bind (W.bind (W.bind (W.of (Rt.bind (.ok p_bag) fun x_236 => Rt.bind (Rt.bind (.ok s_230.1) fun x_235 => (.ok (x_235.length : Int))) fun x_237 => .ok (x_236, x_237))) fun x => t__law_take x.1 x.2) fun x_239 => W.of (Rt.bind (popAt s_230.1 x_239) fun p => Rt.bind (apR s_230.2 p.1) fun zs => .ok (p.2, zs))) fun s_238 => (W.ok (s_238.1, s_238.2)))) (s_229.1, s_229.2)) fun s_240 => (W.of (.ok s_240.2)))) := (wb_seq (wn_of (tn_par (tp_cons (tp_O (tg_one (tg_list (ts_T (te_var (c := (cT cI)) rfl))))) (tp_one (tp_O (tg_lstL (th_nil (c := cI)))))) rfl)) (fun s_229 => (wb_seq (wn_while (s0 := (s_229.1, s_229.2)) (Gs := (fun (s_230 : ((List Int) × (List Int))) => [(0, .val ((cRk k).d p_bag)), (2, .own ((oL cI) s_230.1)), (3, .own ((oL cI) s_230.2))])) (by exact ⟨rfl, rfl, rfl, trivial⟩) (fun s_230 => (wg_of (tt_test (te_eqOwn (c := cI) (neg := true) rfl rfl (te_valL (tg_lstL (th_nil (c := cI)))))))) (fun s_230 => (wn_to (fun s_238 => (s_238.1, s_238.2)) (wn_apop rfl rfl rfl rfl rfl (we_call (T__law_take k) (wg_of (ta_cons (te_var (c := (cRk k)) rfl) (ta_one (tg_one (tg_len (ts_own (c := cI) rfl)))))) rfl (fun _ => rfl))) (fun s_238 => (by exact ⟨rfl, rfl, rfl, trivial⟩))))) (fun s_240 => (wb_ret (wg_of (tg_one (te_tupOwn (c := cI) rfl))))))))
theorem T__law_mixed (k : Nat) : WF (PoolI k) m__law_mixed (qc (cRk k) (q1 (cT cI))) (cT cI) (fun x => t__law_mixed x.1 x.2) := wf_b (fun a => B__law_mixed k a.1 a.2) rfl rfl
def t__law_steps (p_row : (List Int)) (p_way : Str) : Rt (List (List Int)) := (Rt.bind (Rt.bind (lineR ([] : List (List Int))) fun x_390 => .ok (x_390, (p_row.length : Int))) fun s_392 => (Rt.bind (Rt.bind (rngR1 s_392.2) fun xs_506 => forT xs_506 s_392.1 (fun (s_394 : (List (List Int))) (x_395 : Int) => (Rt.bind (Rt.bind (rngR1 s_392.2) fun xs_505 => forT xs_505 s_394 (fun (s_397 : (List (List Int))) (x_398 : Int) => (Rt.bind (Rt.bind (cond (decide (p_way = ("move" : Str))) (.ok true) (cond (decide (p_way = ("front" : Str))) (.ok (decide (x_398 = (0 : Int)))) (.ok false))) fun k_504 => cond k_504 (Rt.bind (catR (Ev.cutD p_row none (some x_395)) (Ev.cutD p_row (some (x_395 + (1 : Int))) none)) fun rest_419 => (Rt.bind (Rt.bind (Rt.bind (Rt.bind (Rt.bind (Rt.bind (ixR p_row x_395) fun x_426 => .ok (x_426 :: ([] : List Int))) lineR) fun x_429 => catR (Ev.cutD rest_419 none (some x_398)) x_429) fun x_434 => catR x_434 (Ev.cutD rest_419 (some x_398) none)) fun x_437 => apR s_397 x_437) fun found_436 => (.ok found_436))) (Rt.bind (Rt.bind (cond (decide (x_395 < x_398)) (cond (decide (p_way = ("any" : Str))) (.ok true) (Rt.bind (cond (decide (p_way = ("near" : Str))) (.ok (decide (x_398 = (x_395 + (1 : Int))))) (.ok false)) fun k_461 => cond k_461 (.ok true) (cond (decide (p_way = ("ring" : Str))) (.ok (negB false (decide ((x_398 - x_395) ∈ [((1 : Int), s_392.2 - (1 : Int)).1, ((1 : Int), s_392.2 - (1 : Int)).2])))) (.ok false)))) (.ok false)) fun k_503 => cond k_503 (Rt.bind (Rt.bind (Rt.bind (Rt.bind (Rt.bind (Rt.bind (Rt.bind (Rt.bind (ixR p_row x_398) fun x_470 => .ok (x_470 :: ([] : List Int))) lineR) fun x_473 => catR (Ev.cutD p_row none (some x_395)) x_473) fun x_481 => catR x_481 (Ev.cutD p_row (some (x_395 + (1 : Int))) (some x_398))) fun x_487 => (Rt.bind (Rt.bind (Rt.bind (ixR p_row x_395) fun x_485 => .ok (x_485 :: ([] : List Int))) lineR) fun x_488 => catR x_487 x_488)) fun x_495 => catR x_495 (Ev.cutD p_row (some (x_398 + (1 : Int))) none)) fun x_498 => apR s_397 x_498) fun found_497 => (.ok found_497)) (.ok s_397)) fun s_499 => (.ok s_499))) fun s_500 => (.ok s_500)))) fun s_501 => (.ok s_501)))) fun s_502 => (.ok s_502)))
theorem B__law_steps (p_row : (List Int)) (p_way : Str) : TB 7 [(0, .val ((cT cI).d p_row)), (1, .val (cS.d p_way))] b__law_steps (cL (cT cI)) (Rt.bind (Rt.bind (Rt.bind (.ok ([] : List (List Int))) lineR) fun x_390 => Rt.bind (Rt.bind (.ok p_row) fun x_389 => (.ok (x_389.length : Int))) fun x_391 => .ok (x_390, x_391)) fun s_392 => (Rt.bind (Rt.bind (Rt.bind (.ok s_392.2) fun x_393 => rngR1 x_393) fun xs_506 => forT xs_506 s_392.1 (fun (s_394 : (List (List Int))) (x_395 : Int) => (Rt.bind (Rt.bind (Rt.bind (.ok s_392.2) fun x_396 => rngR1 x_396) fun xs_505 => forT xs_505 s_394 (fun (s_397 : (List (List Int))) (x_398 : Int) => (Rt.bind (Rt.bind (Rt.bind (Rt.bind (.ok p_way) fun x_399 => (Rt.bind (.ok ("move" : Str)) fun x_400 => (.ok (decide (x_399 = x_400))))) fun k_406 => cond k_406 (.ok true) (Rt.bind (Rt.bind (.ok p_way) fun x_401 => (Rt.bind (.ok ("front" : Str)) fun x_402 => (.ok (decide (x_401 = x_402))))) fun k_405 => cond k_405 (Rt.bind (.ok x_398) fun x_403 => (Rt.bind (.ok (0 : Int)) fun x_404 => (.ok (decide (x_403 = x_404))))) (.ok false))) fun k_504 => cond k_504 (Rt.bind (Rt.bind (Rt.bind (.ok p_row) fun x_408 => (Rt.bind (.ok none) fun x_409 => (Rt.bind (Rt.bind (.ok x_395) fun x_407 => (.ok (some x_407))) fun x_410 => (.ok (Ev.cutD x_408 x_409 x_410))))) fun x_417 => (Rt.bind (Rt.bind (.ok p_row) fun x_414 => (Rt.bind (Rt.bind (Rt.bind (.ok x_395) fun x_411 => (Rt.bind (.ok (1 : Int)) fun x_412 => (.ok (x_411 + x_412)))) fun x_413 => (.ok (some x_413))) fun x_415 => (Rt.bind (.ok none) fun x_416 => (.ok (Ev.cutD x_414 x_415 x_416))))) fun x_418 => catR x_417 x_418)) fun rest_419 => (Rt.bind (Rt.bind (Rt.bind (Rt.bind (Rt.bind (.ok rest_419) fun x_421 => (Rt.bind (.ok none) fun x_422 => (Rt.bind (Rt.bind (.ok x_398) fun x_420 => (.ok (some x_420))) fun x_423 => (.ok (Ev.cutD x_421 x_422 x_423))))) fun x_428 => (Rt.bind (Rt.bind (Rt.bind (Rt.bind (.ok p_row) fun x_424 => (Rt.bind (.ok x_395) fun x_425 => ixR x_424 x_425)) fun x_426 => Rt.bind (.ok ([] : List Int)) fun x_427 => .ok (x_426 :: x_427)) lineR) fun x_429 => catR x_428 x_429)) fun x_434 => (Rt.bind (Rt.bind (.ok rest_419) fun x_431 => (Rt.bind (Rt.bind (.ok x_398) fun x_430 => (.ok (some x_430))) fun x_432 => (Rt.bind (.ok none) fun x_433 => (.ok (Ev.cutD x_431 x_432 x_433))))) fun x_435 => catR x_434 x_435)) fun x_437 => apR s_397 x_437) fun found_436 => (.ok found_436))) (Rt.bind (Rt.bind (Rt.bind (Rt.bind (.ok x_395) fun x_438 => (Rt.bind (.ok x_398) fun x_439 => (.ok (decide (x_438 < x_439))))) fun k_463 => cond k_463 (Rt.bind (Rt.bind (.ok p_way) fun x_440 => (Rt.bind (.ok ("any" : Str)) fun x_441 => (.ok (decide (x_440 = x_441))))) fun k_462 => cond k_462 (.ok true) (Rt.bind (Rt.bind (Rt.bind (.ok p_way) fun x_442 => (Rt.bind (.ok ("near" : Str)) fun x_443 => (.ok (decide (x_442 = x_443))))) fun k_448 => cond k_448 (Rt.bind (.ok x_398) fun x_446 => (Rt.bind (Rt.bind (.ok x_395) fun x_444 => (Rt.bind (.ok (1 : Int)) fun x_445 => (.ok (x_444 + x_445)))) fun x_447 => (.ok (decide (x_446 = x_447))))) (.ok false)) fun k_461 => cond k_461 (.ok true) (Rt.bind (Rt.bind (.ok p_way) fun x_449 => (Rt.bind (.ok ("ring" : Str)) fun x_450 => (.ok (decide (x_449 = x_450))))) fun k_460 => cond k_460 (Rt.bind (Rt.bind (.ok x_398) fun x_451 => (Rt.bind (.ok x_395) fun x_452 => (.ok (x_451 - x_452)))) fun x_458 => (Rt.bind (Rt.bind (Rt.bind (.ok (1 : Int)) fun x_455 => Rt.bind (Rt.bind (.ok s_392.2) fun x_453 => (Rt.bind (.ok (1 : Int)) fun x_454 => (.ok (x_453 - x_454)))) fun x_456 => .ok (x_455, x_456)) fun x_457 => (.ok [x_457.1, x_457.2])) fun x_459 => (.ok (negB false (decide (x_458 ∈ x_459)))))) (.ok false)))) (.ok false)) fun k_503 => cond k_503 (Rt.bind (Rt.bind (Rt.bind (Rt.bind (Rt.bind (Rt.bind (Rt.bind (.ok p_row) fun x_465 => (Rt.bind (.ok none) fun x_466 => (Rt.bind (Rt.bind (.ok x_395) fun x_464 => (.ok (some x_464))) fun x_467 => (.ok (Ev.cutD x_465 x_466 x_467))))) fun x_472 => (Rt.bind (Rt.bind (Rt.bind (Rt.bind (.ok p_row) fun x_468 => (Rt.bind (.ok x_398) fun x_469 => ixR x_468 x_469)) fun x_470 => Rt.bind (.ok ([] : List Int)) fun x_471 => .ok (x_470 :: x_471)) lineR) fun x_473 => catR x_472 x_473)) fun x_481 => (Rt.bind (Rt.bind (.ok p_row) fun x_478 => (Rt.bind (Rt.bind (Rt.bind (.ok x_395) fun x_474 => (Rt.bind (.ok (1 : Int)) fun x_475 => (.ok (x_474 + x_475)))) fun x_476 => (.ok (some x_476))) fun x_479 => (Rt.bind (Rt.bind (.ok x_398) fun x_477 => (.ok (some x_477))) fun x_480 => (.ok (Ev.cutD x_478 x_479 x_480))))) fun x_482 => catR x_481 x_482)) fun x_487 => (Rt.bind (Rt.bind (Rt.bind (Rt.bind (.ok p_row) fun x_483 => (Rt.bind (.ok x_395) fun x_484 => ixR x_483 x_484)) fun x_485 => Rt.bind (.ok ([] : List Int)) fun x_486 => .ok (x_485 :: x_486)) lineR) fun x_488 => catR x_487 x_488)) fun x_495 => (Rt.bind (Rt.bind (.ok p_row) fun x_492 => (Rt.bind (Rt.bind (Rt.bind (.ok x_398) fun x_489 => (Rt.bind (.ok (1 : Int)) fun x_490 => (.ok (x_489 + x_490)))) fun x_491 => (.ok (some x_491))) fun x_493 => (Rt.bind (.ok none) fun x_494 => (.ok (Ev.cutD x_492 x_493 x_494))))) fun x_496 => catR x_495 x_496)) fun x_498 => apR s_397 x_498) fun found_497 => (.ok found_497)) (Rt.bind (.ok ()) fun _ => (.ok s_397))) fun s_499 => (.ok s_499))) fun s_500 => (.ok s_500)))) fun s_501 => (.ok s_501)))) fun s_502 => (.ok s_502))) := (tb_seq (tn_par (tp_cons (tp_O (tg_lstL (th_nil (c := (cT cI))))) (tp_one (tp_V (tg_one (tg_len (ts_T (te_var (c := (cT cI)) rfl))))))) rfl) (fun s_392 => (tb_seq (tn_for (s0 := s_392.1) (Gs := (fun (s_394 : (List (List Int))) => [(0, .val ((cT cI).d p_row)), (1, .val (cS.d p_way)), (4, .val (cI.d s_392.2)), (3, .own ((oL (cT cI)) s_394))])) (tg_one (tg_un u_rng1 (te_var (c := cI) rfl))) (by exact ⟨rfl, rfl, rfl, rfl, trivial⟩) (fun s_394 x_395 => (gt_set rfl)) (fun s_394 x_395 => (tn_to (fun s_501 => s_501) (tn_for (s0 := s_394) (Gs := (fun (s_397 : (List (List Int))) => [(0, .val ((cT cI).d p_row)), (1, .val (cS.d p_way)), (2, .val (cI.d x_395)), (4, .val (cI.d s_392.2)), (3, .own ((oL (cT cI)) s_397))])) (tg_one (tg_un u_rng1 (te_var (c := cI) rfl))) (by exact ⟨rfl, rfl, rfl, rfl, rfl, trivial⟩) (fun s_397 x_398 => (gt_set rfl)) (fun s_397 x_398 => (tn_to (fun s_500 => s_500) (tn_if (Gs := (fun (s_500 : (List (List Int))) => [(0, .val ((cT cI).d p_row)), (1, .val (cS.d p_way)), (2, .val (cI.d x_395)), (4, .val (cI.d s_392.2)), (5, .val (cI.d x_398)), (3, .own ((oL (cT cI)) s_500))])) (tt_or (tt_test (te_op (o_eq (c := cS) rfl) (te_var (c := cS) rfl) te_str)) (tt_and (tt_test (te_op (o_eq (c := cS) rfl) (te_var (c := cS) rfl) te_str)) (tt_test (te_op (o_eq (c := cI) rfl) (te_var (c := cI) rfl) te_int)))) (tn_seq (tn_set (te_op o_addT (te_slT (te_var (c := (cT cI)) rfl) to_none (to_some (te_var (c := cI) rfl))) (te_slT (te_var (c := (cT cI)) rfl) (to_some (te_op o_add (te_var (c := cI) rfl) te_int)) to_none)) rfl) (fun rest_419 => (tn_to (fun found_436 => found_436) (tn_append rfl rfl (te_op o_addT (te_op o_addT (te_slT (te_var (c := (cT cI)) rfl) to_none (to_some (te_var (c := cI) rfl))) (te_tupT (th_cons (te_ix (ts_T (te_var (c := (cT cI)) rfl)) (te_var (c := cI) rfl)) (th_nil (c := cI))))) (te_slT (te_var (c := (cT cI)) rfl) (to_some (te_var (c := cI) rfl)) to_none)) rfl) (fun found_436 => (by exact ⟨rfl, rfl, rfl, rfl, rfl, rfl, trivial⟩))))) (tn_to (fun s_499 => s_499) (tn_if (Gs := (fun (s_499 : (List (List Int))) => [(0, .val ((cT cI).d p_row)), (1, .val (cS.d p_way)), (2, .val (cI.d x_395)), (4, .val (cI.d s_392.2)), (5, .val (cI.d x_398)), (3, .own ((oL (cT cI)) s_499))])) (tt_and (tt_test (te_op o_lt (te_var (c := cI) rfl) (te_var (c := cI) rfl))) (tt_or (tt_test (te_op (o_eq (c := cS) rfl) (te_var (c := cS) rfl) te_str)) (tt_or (tt_and (tt_test (te_op (o_eq (c := cS) rfl) (te_var (c := cS) rfl) te_str)) (tt_test (te_op (o_eq (c := cI) rfl) (te_var (c := cI) rfl) (te_op o_add (te_var (c := cI) rfl) te_int)))) (tt_and (tt_test (te_op (o_eq (c := cS) rfl) (te_var (c := cS) rfl) te_str)) (tt_test (te_in (c := cI) (te_op o_sub (te_var (c := cI) rfl) (te_var (c := cI) rfl)) (ts_T (te_re (c := (cP (qc cI (q1 cI)))) (c' := (cT cI)) (fun a => [a.1, a.2]) (te_tupP (q := (qc cI (q1 cI))) (ta_cons te_int (ta_one (te_op o_sub (te_var (c := cI) rfl) te_int))) rfl) (fun _ => rfl))))))))) (tn_to (fun found_497 => found_497) (tn_append rfl rfl (te_op o_addT (te_op o_addT (te_op o_addT (te_op o_addT (te_slT (te_var (c := (cT cI)) rfl) to_none (to_some (te_var (c := cI) rfl))) (te_tupT (th_cons (te_ix (ts_T (te_var (c := (cT cI)) rfl)) (te_var (c := cI) rfl)) (th_nil (c := cI))))) (te_slT (te_var (c := (cT cI)) rfl) (to_some (te_op o_add (te_var (c := cI) rfl) te_int)) (to_some (te_var (c := cI) rfl)))) (te_tupT (th_cons (te_ix (ts_T (te_var (c := (cT cI)) rfl)) (te_var (c := cI) rfl)) (th_nil (c := cI))))) (te_slT (te_var (c := (cT cI)) rfl) (to_some (te_op o_add (te_var (c := cI) rfl) te_int)) to_none)) rfl) (fun found_497 => (by exact ⟨rfl, rfl, rfl, rfl, rfl, rfl, trivial⟩))) (tn_to (fun _ => s_397) tn_skip (fun _ => (by exact ⟨rfl, rfl, rfl, rfl, rfl, rfl, trivial⟩)))) (fun s_499 => (by exact ⟨rfl, rfl, rfl, rfl, rfl, rfl, trivial⟩)))) (fun s_500 => (by exact ⟨rfl, rfl, rfl, rfl, rfl, trivial⟩))))) (fun s_501 => (by exact ⟨rfl, rfl, rfl, rfl, trivial⟩))))) (fun s_502 => (tb_ret (te_frzL rfl rfl))))))
theorem T__law_steps : TF m__law_steps (qc (cT cI) (q1 cS)) (cL (cT cI)) (fun x => t__law_steps x.1 x.2) := tf_b (fun a => B__law_steps a.1 a.2) rfl rfl
def t__law_off (p_row : (List Int)) (p_way : Str) : Rt (List ((List Int) × Int)) := (Rt.bind (Rt.bind (lineR (p_row :: ([] : List (List Int)))) fun x_512 => .ok ([(p_row, (0 : Int))], x_512)) fun s_513 => (Rt.bind (whileT 1000 (fun (s_514 : ((List ((List Int) × Int)) × (List (List Int)))) => (Rt.bind (lineR ([] : List (List Int))) fun x_516 => (.ok (!decide (s_514.2 = x_516))))) (fun (s_514 : ((List ((List Int) × Int)) × (List (List Int)))) => (Rt.bind (lineR ([] : List (List Int))) fun later_517 => (Rt.bind (forT s_514.2 (s_514.1, later_517) (fun (s_518 : ((List ((List Int) × Int)) × (List (List Int)))) (x_519 : (List Int)) => (Rt.bind (Rt.bind (t__law_steps x_519 p_way) fun xs_541 => forT xs_541 (s_518.1, s_518.2) (fun (s_522 : ((List ((List Int) × Int)) × (List (List Int)))) (x_523 : (List Int)) => (Rt.bind (cond (negB true (lk s_522.1 x_523).isSome) (Rt.bind (Rt.bind (Rt.bind (dGetR s_522.1 x_519) fun x_528 => (.ok (x_528 + (1 : Int)))) fun x_530 => (ptR s_522.1 x_523 x_530)) fun found_532 => (Rt.bind (apR s_522.2 x_523) fun later_533 => (.ok (found_532, later_533)))) (.ok (s_522.1, s_522.2))) fun s_535 => (.ok (s_535.1, s_535.2))))) fun s_536 => (.ok (s_536.1, s_536.2))))) fun s_537 => (Rt.bind (.ok s_537.2) fun front_538 => (.ok (s_537.1, front_538)))))) (s_513.1, s_513.2)) fun s_539 => (.ok s_539.1)))
theorem B__law_off (p_row : (List Int)) (p_way : Str) : TB 7 [(0, .val ((cT cI).d p_row)), (1, .val (cS.d p_way))] b__law_off (cM (cT cI) cI) (Rt.bind (Rt.bind (Rt.bind (.ok p_row) fun x_507 => (Rt.bind (.ok (0 : Int)) fun x_508 => (.ok [(x_507, x_508)]))) fun x_511 => Rt.bind (Rt.bind (Rt.bind (.ok p_row) fun x_509 => Rt.bind (.ok ([] : List (List Int))) fun x_510 => .ok (x_509 :: x_510)) lineR) fun x_512 => .ok (x_511, x_512)) fun s_513 => (Rt.bind (whileT 1000 (fun (s_514 : ((List ((List Int) × Int)) × (List (List Int)))) => (Rt.bind (.ok s_514.2) fun x_515 => (Rt.bind (Rt.bind (.ok ([] : List (List Int))) lineR) fun x_516 => (.ok (!decide (x_515 = x_516)))))) (fun (s_514 : ((List ((List Int) × Int)) × (List (List Int)))) => (Rt.bind (Rt.bind (.ok ([] : List (List Int))) lineR) fun later_517 => (Rt.bind (Rt.bind (.ok s_514.2) fun xs_542 => forT xs_542 (s_514.1, later_517) (fun (s_518 : ((List ((List Int) × Int)) × (List (List Int)))) (x_519 : (List Int)) => (Rt.bind (Rt.bind (Rt.bind (Rt.bind (.ok x_519) fun x_520 => Rt.bind (.ok p_way) fun x_521 => .ok (x_520, x_521)) fun x => t__law_steps x.1 x.2) fun xs_541 => forT xs_541 (s_518.1, s_518.2) (fun (s_522 : ((List ((List Int) × Int)) × (List (List Int)))) (x_523 : (List Int)) => (Rt.bind (Rt.bind (Rt.bind (.ok x_523) fun x_524 => (Rt.bind (.ok s_522.1) fun x_525 => (.ok (negB true (lk x_525 x_524).isSome)))) fun k_540 => cond k_540 (Rt.bind (Rt.bind (Rt.bind (Rt.bind (.ok s_522.1) fun x_526 => (Rt.bind (.ok x_519) fun x_527 => dGetR x_526 x_527)) fun x_528 => (Rt.bind (.ok (1 : Int)) fun x_529 => (.ok (x_528 + x_529)))) fun x_530 => Rt.bind (.ok x_523) fun x_531 => ptR s_522.1 x_531 x_530) fun found_532 => (Rt.bind (Rt.bind (.ok x_523) fun x_534 => apR s_522.2 x_534) fun later_533 => (.ok (found_532, later_533)))) (Rt.bind (.ok ()) fun _ => (.ok (s_522.1, s_522.2)))) fun s_535 => (.ok (s_535.1, s_535.2))))) fun s_536 => (.ok (s_536.1, s_536.2))))) fun s_537 => (Rt.bind (.ok s_537.2) fun front_538 => (.ok (s_537.1, front_538)))))) (s_513.1, s_513.2)) fun s_539 => (.ok s_539.1))) := (tb_seq (tn_par (tp_cons (tp_O (tg_done (te_var (c := (cT cI)) rfl) te_int)) (tp_one (tp_V (te_valL (tg_lstL (th_cons (te_var (c := (cT cI)) rfl) (th_nil (c := (cT cI))))))))) rfl) (fun s_513 => (tb_seq (tn_while (s0 := (s_513.1, s_513.2)) (Gs := (fun (s_514 : ((List ((List Int) × Int)) × (List (List Int)))) => [(1, .val (cS.d p_way)), (2, .own ((oM (cT cI) cI) s_514.1)), (3, .val ((cL (cT cI)).d s_514.2))])) (by exact ⟨rfl, rfl, rfl, trivial⟩) (fun s_514 => (tt_test (te_op (o_ne (c := (cL (cT cI))) rfl) (te_var (c := (cL (cT cI))) rfl) (te_valL (tg_lstL (th_nil (c := (cT cI)))))))) (fun s_514 => (tn_seq (tn_own (tg_lstL (th_nil (c := (cT cI)))) rfl) (fun later_517 => (tn_seq (tn_for (s0 := (s_514.1, later_517)) (Gs := (fun (s_518 : ((List ((List Int) × Int)) × (List (List Int)))) => [(1, .val (cS.d p_way)), (3, .val ((cL (cT cI)).d s_514.2)), (2, .own ((oM (cT cI) cI) s_518.1)), (4, .own ((oL (cT cI)) s_518.2))])) (ti_L (te_var (c := (cL (cT cI))) rfl)) (by exact ⟨rfl, rfl, rfl, rfl, trivial⟩) (fun s_518 x_519 => (gt_set rfl)) (fun s_518 x_519 => (tn_to (fun s_536 => (s_536.1, s_536.2)) (tn_for (s0 := (s_518.1, s_518.2)) (Gs := (fun (s_522 : ((List ((List Int) × Int)) × (List (List Int)))) => [(1, .val (cS.d p_way)), (3, .val ((cL (cT cI)).d s_514.2)), (5, .val ((cT cI).d x_519)), (2, .own ((oM (cT cI) cI) s_522.1)), (4, .own ((oL (cT cI)) s_522.2))])) (ti_L (te_call T__law_steps (ta_cons (te_var (c := (cT cI)) rfl) (ta_one (te_var (c := cS) rfl))) rfl (fun _ => rfl))) (by exact ⟨rfl, rfl, rfl, rfl, rfl, trivial⟩) (fun s_522 x_523 => (gt_set rfl)) (fun s_522 x_523 => (tn_to (fun s_535 => (s_535.1, s_535.2)) (tn_if (Gs := (fun (s_535 : ((List ((List Int) × Int)) × (List (List Int)))) => [(1, .val (cS.d p_way)), (3, .val ((cL (cT cI)).d s_514.2)), (5, .val ((cT cI).d x_519)), (6, .val ((cT cI).d x_523)), (2, .own ((oM (cT cI) cI) s_535.1)), (4, .own ((oL (cT cI)) s_535.2))])) (tt_test (te_din (te_var (c := (cT cI)) rfl) (td_own (ck := (cT cI)) (cv := cI) rfl))) (tn_seq (tn_dput rfl (te_op o_add (te_dget (td_own (ck := (cT cI)) (cv := cI) rfl) (te_var (c := (cT cI)) rfl)) te_int) rfl (te_var (c := (cT cI)) rfl) rfl) (fun found_532 => (tn_to (fun later_533 => (found_532, later_533)) (tn_append rfl rfl (te_var (c := (cT cI)) rfl) rfl) (fun later_533 => (by exact ⟨rfl, rfl, rfl, rfl, rfl, rfl, trivial⟩))))) (tn_to (fun _ => (s_522.1, s_522.2)) tn_skip (fun _ => (by exact ⟨rfl, rfl, rfl, rfl, rfl, rfl, trivial⟩)))) (fun s_535 => (by exact ⟨rfl, rfl, rfl, rfl, rfl, trivial⟩))))) (fun s_536 => (by exact ⟨rfl, rfl, rfl, rfl, trivial⟩))))) (fun s_537 => (tn_to (fun front_538 => (s_537.1, front_538)) (tn_set (te_frzL rfl rfl) rfl) (fun front_538 => (by exact ⟨rfl, rfl, rfl, trivial⟩))))))))) (fun s_539 => (tb_ret (te_frzM rfl rfl))))))
theorem T__law_off : TF m__law_off (qc (cT cI) (q1 cS)) (cM (cT cI) cI) (fun x => t__law_off x.1 x.2) := tf_b (fun a => B__law_off a.1 a.2) rfl rfl
def t__law_all_rows (p_row : (List Int)) : Rt (List (List Int)) := (Rt.bind (Rt.bind (Rt.bind (lineR ([] : List Int)) fun x_574 => .ok (x_574 :: ([] : List (List Int)))) lineR) fun found_576 => (Rt.bind (Rt.bind (rngR1 (p_row.length : Int)) fun xs_604 => forT xs_604 found_576 (fun (s_579 : (List (List Int))) (x_580 : Int) => (Rt.bind (lineR ([] : List (List Int))) fun longer_581 => (Rt.bind (forT s_579 longer_581 (fun (s_582 : (List (List Int))) (x_583 : (List Int)) => (Rt.bind (Rt.bind (Rt.bind (sortSetR p_row) fun xs_596 => Rt.bind (lcT xs_596 (fun (x_585 : Int) => (.ok (decide (((x_583.countP fun y => decide (y = x_585) : Nat) : Int) < ((p_row.countP fun y => decide (y = x_585) : Nat) : Int))))) (fun (x_585 : Int) => (Rt.bind (lineR (x_585 :: ([] : List Int))) fun x_595 => catR x_583 x_595))) lineR) fun x_598 => catR s_582 x_598) fun longer_599 => (.ok longer_599)))) fun s_600 => (Rt.bind (.ok s_600) fun found_601 => (.ok found_601)))))) fun s_602 => (.ok s_602)))
theorem B__law_all_rows (p_row : (List Int)) : TB 6 [(0, .val ((cT cI).d p_row))] b__law_all_rows (cL (cT cI)) (Rt.bind (Rt.bind (Rt.bind (Rt.bind (.ok ([] : List Int)) lineR) fun x_574 => Rt.bind (.ok ([] : List (List Int))) fun x_575 => .ok (x_574 :: x_575)) lineR) fun found_576 => (Rt.bind (Rt.bind (Rt.bind (Rt.bind (.ok p_row) fun x_577 => (.ok (x_577.length : Int))) fun x_578 => rngR1 x_578) fun xs_604 => forT xs_604 found_576 (fun (s_579 : (List (List Int))) (x_580 : Int) => (Rt.bind (Rt.bind (.ok ([] : List (List Int))) lineR) fun longer_581 => (Rt.bind (Rt.bind (.ok s_579) fun xs_603 => forT xs_603 longer_581 (fun (s_582 : (List (List Int))) (x_583 : (List Int)) => (Rt.bind (Rt.bind (.ok s_582) fun x_597 => (Rt.bind (Rt.bind (Rt.bind (.ok p_row) fun x_584 => sortSetR x_584) fun xs_596 => Rt.bind (lcT xs_596 (fun (x_585 : Int) => (Rt.bind (Rt.bind (.ok x_583) fun x_586 => (Rt.bind (.ok x_585) fun x_587 => (.ok ((x_586.countP fun y => decide (y = x_587) : Nat) : Int)))) fun x_590 => (Rt.bind (Rt.bind (.ok p_row) fun x_588 => (Rt.bind (.ok x_585) fun x_589 => (.ok ((x_588.countP fun y => decide (y = x_589) : Nat) : Int)))) fun x_591 => (.ok (decide (x_590 < x_591)))))) (fun (x_585 : Int) => (Rt.bind (.ok x_583) fun x_594 => (Rt.bind (Rt.bind (Rt.bind (.ok x_585) fun x_592 => Rt.bind (.ok ([] : List Int)) fun x_593 => .ok (x_592 :: x_593)) lineR) fun x_595 => catR x_594 x_595)))) lineR) fun x_598 => catR x_597 x_598)) fun longer_599 => (.ok longer_599)))) fun s_600 => (Rt.bind (.ok s_600) fun found_601 => (.ok found_601)))))) fun s_602 => (.ok s_602))) := (tb_seq (tn_set (te_valL (tg_lstL (th_cons (te_tupT (th_nil (c := cI))) (th_nil (c := (cT cI)))))) rfl) (fun found_576 => (tb_seq (tn_for (s0 := found_576) (Gs := (fun (s_579 : (List (List Int))) => [(0, .val ((cT cI).d p_row)), (1, .val ((cL (cT cI)).d s_579))])) (tg_one (tg_un u_rng1 (tg_one (tg_len (ts_T (te_var (c := (cT cI)) rfl)))))) (by exact ⟨rfl, rfl, trivial⟩) (fun s_579 x_580 => (gt_set rfl)) (fun s_579 x_580 => (tn_seq (tn_set (te_valL (tg_lstL (th_nil (c := (cT cI))))) rfl) (fun longer_581 => (tn_seq (tn_for (s0 := longer_581) (Gs := (fun (s_582 : (List (List Int))) => [(0, .val ((cT cI).d p_row)), (1, .val ((cL (cT cI)).d s_579)), (3, .val ((cL (cT cI)).d s_582))])) (ti_L (te_var (c := (cL (cT cI))) rfl)) (by exact ⟨rfl, rfl, rfl, trivial⟩) (fun s_582 x_583 => (gt_set rfl)) (fun s_582 x_583 => (tn_to (fun longer_599 => longer_599) (tn_set (te_op o_addL (te_var (c := (cL (cT cI))) rfl) (te_valL (tg_lc (ti_L (te_valL (tg_one (tg_un u_sortSet (te_var (c := (cT cI)) rfl))))) rfl (fun x_585 => (gc_set rfl rfl)) (fun x_585 => (tt_test (te_op o_lt (te_countT (c := cI) rfl (te_var (c := (cT cI)) rfl) (te_var (c := cI) rfl)) (te_countT (c := cI) rfl (te_var (c := (cT cI)) rfl) (te_var (c := cI) rfl))))) (fun x_585 => (te_op o_addT (te_var (c := (cT cI)) rfl) (te_tupT (th_cons (te_var (c := cI) rfl) (th_nil (c := cI))))))))) rfl) (fun longer_599 => (by exact ⟨rfl, rfl, rfl, trivial⟩))))) (fun s_600 => (tn_to (fun found_601 => found_601) (tn_set (te_var (c := (cL (cT cI))) rfl) rfl) (fun found_601 => (by exact ⟨rfl, rfl, trivial⟩))))))))) (fun s_602 => (tb_ret (te_var (c := (cL (cT cI))) rfl))))))
theorem T__law_all_rows : TF m__law_all_rows (q1 (cT cI)) (cL (cT cI)) (fun x => t__law_all_rows x) := tf_b (fun a => B__law_all_rows a) rfl rfl
def t__law_medians (p_rows : (List (List Int))) (p_way : Str) : Rt (Int × (List (List Int))) := (Rt.bind (Rt.bind (lcT p_rows (fun (x_605 : (List Int)) => (.ok true)) (fun (x_605 : (List Int)) => (t__law_off x_605 p_way))) lineR) fun offs_609 => (Rt.bind (Rt.bind (ixR p_rows (0 : Int)) fun x => t__law_all_rows x) fun some_612 => (Rt.bind (Rt.bind (lcT some_612 (fun (x_613 : (List Int)) => (.ok true)) (fun (x_613 : (List Int)) => (Rt.bind (Rt.bind (lcT offs_609 (fun (x_614 : (List ((List Int) × Int))) => (.ok true)) (fun (x_614 : (List ((List Int) × Int))) => (dGetR x_614 x_613))) lineR) fun x_618 => (.ok x_618.sum)))) lineR) fun sums_620 => (Rt.bind (minR sums_620) fun x_630 => Rt.bind (Rt.bind (Rt.bind (lcT (some_612.zip sums_620) (fun (x_624 : ((List Int) × Int)) => (Rt.bind (minR sums_620) fun x_627 => (.ok (decide (x_624.2 = x_627))))) (fun (x_624 : ((List Int) × Int)) => (.ok x_624.1))) lineR) fun x_629 => (.ok x_629)) fun x_631 => .ok (x_630, x_631)))))
theorem B__law_medians (p_rows : (List (List Int))) (p_way : Str) : TB 9 [(0, .val ((cT (cT cI)).d p_rows)), (1, .val (cS.d p_way))] b__law_medians (cP (qc cI (q1 (cT (cT cI))))) (Rt.bind (Rt.bind (.ok p_rows) fun xs_608 => Rt.bind (lcT xs_608 (fun (x_605 : (List Int)) => (.ok true)) (fun (x_605 : (List Int)) => (Rt.bind (Rt.bind (.ok x_605) fun x_606 => Rt.bind (.ok p_way) fun x_607 => .ok (x_606, x_607)) fun x => t__law_off x.1 x.2))) lineR) fun offs_609 => (Rt.bind (Rt.bind (Rt.bind (.ok p_rows) fun x_610 => (Rt.bind (.ok (0 : Int)) fun x_611 => ixR x_610 x_611)) fun x => t__law_all_rows x) fun some_612 => (Rt.bind (Rt.bind (.ok some_612) fun xs_619 => Rt.bind (lcT xs_619 (fun (x_613 : (List Int)) => (.ok true)) (fun (x_613 : (List Int)) => (Rt.bind (Rt.bind (.ok offs_609) fun xs_617 => Rt.bind (lcT xs_617 (fun (x_614 : (List ((List Int) × Int))) => (.ok true)) (fun (x_614 : (List ((List Int) × Int))) => (Rt.bind (.ok x_614) fun x_615 => (Rt.bind (.ok x_613) fun x_616 => dGetR x_615 x_616)))) lineR) fun x_618 => (.ok x_618.sum)))) lineR) fun sums_620 => (Rt.bind (Rt.bind (.ok sums_620) fun x_621 => minR x_621) fun x_630 => Rt.bind (Rt.bind (Rt.bind (Rt.bind (.ok some_612) fun x_622 => (Rt.bind (.ok sums_620) fun x_623 => (.ok (x_622.zip x_623)))) fun xs_628 => Rt.bind (lcT xs_628 (fun (x_624 : ((List Int) × Int)) => (Rt.bind (.ok x_624.2) fun x_626 => (Rt.bind (Rt.bind (.ok sums_620) fun x_625 => minR x_625) fun x_627 => (.ok (decide (x_626 = x_627)))))) (fun (x_624 : ((List Int) × Int)) => (.ok x_624.1))) lineR) fun x_629 => (.ok x_629)) fun x_631 => .ok (x_630, x_631))))) := (tb_seq (tn_set (te_valL (tg_lc (ti_T (te_var (c := (cT (cT cI))) rfl)) rfl (fun x_605 => (gc_set rfl rfl)) (fun x_605 => tt_yes) (fun x_605 => (te_call T__law_off (ta_cons (te_var (c := (cT cI)) rfl) (ta_one (te_var (c := cS) rfl))) rfl (fun _ => rfl))))) rfl) (fun offs_609 => (tb_seq (tn_set (te_call T__law_all_rows (ta_one (te_ix (ts_T (te_var (c := (cT (cT cI))) rfl)) te_int)) rfl (fun _ => rfl)) rfl) (fun some_612 => (tb_seq (tn_set (te_valL (tg_lc (ti_L (te_var (c := (cL (cT cI))) rfl)) rfl (fun x_613 => (gc_set rfl rfl)) (fun x_613 => tt_yes) (fun x_613 => (tg_one (tg_un u_sum (te_valL (tg_lc (ti_L (te_var (c := (cL (cM (cT cI) cI))) rfl)) rfl (fun x_614 => (gc_set rfl rfl)) (fun x_614 => tt_yes) (fun x_614 => (te_dget (td_M (te_var (c := (cM (cT cI) cI)) rfl)) (te_var (c := (cT cI)) rfl)))))))))) rfl) (fun sums_620 => (tb_ret (te_tupP (q := (qc cI (q1 (cT (cT cI))))) (ta_cons (tg_one (tg_un u_min (te_var (c := (cL cI)) rfl))) (ta_one (tg_one (tg_un u_tupL (te_valL (tg_lc (tg_two (te_op o_zip (te_var (c := (cL (cT cI))) rfl) (te_var (c := (cL cI)) rfl))) rfl (fun x_624 => (gc_PK (gcs_cons (gc_set rfl rfl) (gcs_cons (gc_set rfl rfl) gcs_nil)))) (fun x_624 => (tt_test (te_op (o_eq (c := cI) rfl) (te_var (c := cI) rfl) (tg_one (tg_un u_min (te_var (c := (cL cI)) rfl)))))) (fun x_624 => (te_var (c := (cT cI)) rfl)))))))) rfl))))))))
theorem T__law_medians : TF m__law_medians (qc (cT (cT cI)) (q1 cS)) (cP (qc cI (q1 (cT (cT cI))))) (fun x => t__law_medians x.1 x.2) := tf_b (fun a => B__law_medians a.1 a.2) rfl rfl
def t_is_whole (p_value : Pv) : Rt Bool := (Rt.bind (isiR p_value .int) fun k_650 => cond k_650 (Rt.bind (isiR p_value .bl) fun x_649 => (.ok (!x_649))) (.ok false))
theorem B_is_whole (p_value : Pv) : TB 1 [(0, .val (cA.d p_value))] b_is_whole cB (Rt.bind (Rt.bind (.ok p_value) fun x_647 => isiR x_647 .int) fun k_650 => cond k_650 (Rt.bind (Rt.bind (.ok p_value) fun x_648 => isiR x_648 .bl) fun x_649 => (.ok (!x_649))) (.ok false)) := (tb_ret (te_and (te_isi (te_var (c := cA) rfl)) (te_not (te_isi (te_var (c := cA) rfl)))))
theorem T_is_whole : TF m_is_whole (q1 cA) cB (fun x => t_is_whole x) := tf_b (fun a => B_is_whole a) rfl rfl
def t_is_between (p_value : Pv) (p_least : Int) (p_most : Int) : Rt Bool := (Rt.bind (t_is_whole p_value) fun k_655 => cond k_655 (Rt.bind (asI p_value) fun x_652 => (cond (decide (p_least ≤ x_652)) (.ok (decide (x_652 ≤ p_most))) (.ok false))) (.ok false))
theorem B_is_between (p_value : Pv) (p_least : Int) (p_most : Int) : TB 3 [(0, .val (cA.d p_value)), (1, .val (cI.d p_least)), (2, .val (cI.d p_most))] b_is_between cB (Rt.bind (Rt.bind (.ok p_value) fun x => t_is_whole x) fun k_655 => cond k_655 (Rt.bind (.ok p_least) fun x_651 => Rt.bind (Rt.bind (.ok p_value) asI) fun x_652 => Rt.bind (.ok (decide (x_651 ≤ x_652))) fun k_654 => cond k_654 (Rt.bind (.ok p_most) fun x_653 => .ok (decide (x_652 ≤ x_653))) (.ok false)) (.ok false)) := (tb_ret (te_and (te_call T_is_whole (ta_one (te_var (c := cA) rfl)) rfl (fun _ => rfl)) (te_chain o_le o_le (te_var (c := cI) rfl) (te_cast asI (te_var (c := cA) rfl) asI_ok) (te_var (c := cI) rfl))))
theorem T_is_between : TF m_is_between (qc cA (qc cI (q1 cI))) cB (fun x => t_is_between x.1 x.2.1 x.2.2) := tf_b (fun a => B_is_between a.1 a.2.1 a.2.2) rfl rfl
def t_is_kinds (p_value : Pv) : Rt Bool := (t_is_between p_value (2 : Int) (4 : Int))
theorem B_is_kinds (p_value : Pv) : TB 1 [(0, .val (cA.d p_value))] b_is_kinds cB (Rt.bind (Rt.bind (.ok p_value) fun x_658 => Rt.bind (Rt.bind (.ok (2 : Int)) fun x_656 => Rt.bind (.ok (4 : Int)) fun x_657 => .ok (x_656, x_657)) fun x_659 => .ok (x_658, x_659)) fun x => t_is_between x.1 x.2.1 x.2.2) := (tb_ret (te_call T_is_between (ta_cons (te_var (c := cA) rfl) (ta_cons te_int (ta_one te_int))) rfl (fun _ => rfl)))
theorem T_is_kinds : TF m_is_kinds (q1 cA) cB (fun x => t_is_kinds x) := tf_b (fun a => B_is_kinds a) rfl rfl
def t_check_kinds (p_kinds : Pv) : Rt Unit := (Rt.bind (Rt.bind (Rt.bind (Rt.bind (t_is_kinds p_kinds) fun x_660 => (.ok (!x_660))) fun k_662 => cond k_662 (.bad : Rt Unit) (.ok ())) fun s_661 => (.ok ())) fun _ => .ok ())
theorem B_check_kinds (p_kinds : Pv) : TN 1 [(0, .val (cA.d p_kinds))] b_check_kinds (Rt.bind (Rt.bind (Rt.bind (Rt.bind (.ok p_kinds) fun x => t_is_kinds x) fun x_660 => (.ok (!x_660))) fun k_662 => cond k_662 (.bad : Rt Unit) (Rt.bind (.ok ()) fun _ => (.ok ()))) fun s_661 => (.ok ())) (fun (_ : Unit) => []) := (tn_to (fun s_661 => ()) (tn_if (Gs := (fun (s_661 : Unit) => [])) (tt_not (tt_test (te_call T_is_kinds (ta_one (te_var (c := cA) rfl)) rfl (fun _ => rfl)))) tn_bad (tn_to (fun _ => ()) tn_skip (fun _ => trivial))) (fun s_661 => trivial))
theorem T_check_kinds : TF m_check_kinds (q1 cA) cN (fun x => t_check_kinds x) := tf_n (fun a => B_check_kinds a) rfl rfl
def t_is_row_values (p_value : Pv) (p_least : Int) (p_most : Int) : Rt Bool := (Rt.bind (isiR p_value .tup) fun k_676 => cond k_676 (Rt.bind (Rt.bind (asT p_value) fun x_671 => (.ok (x_671.length : Int))) fun x_673 => (cond (decide (p_least ≤ x_673)) (.ok (decide (x_673 ≤ p_most))) (.ok false))) (.ok false))
theorem B_is_row_values (p_value : Pv) (p_least : Int) (p_most : Int) : TB 3 [(0, .val (cA.d p_value)), (1, .val (cI.d p_least)), (2, .val (cI.d p_most))] b_is_row_values cB (Rt.bind (Rt.bind (.ok p_value) fun x_670 => isiR x_670 .tup) fun k_676 => cond k_676 (Rt.bind (.ok p_least) fun x_672 => Rt.bind (Rt.bind (Rt.bind (.ok p_value) asT) fun x_671 => (.ok (x_671.length : Int))) fun x_673 => Rt.bind (.ok (decide (x_672 ≤ x_673))) fun k_675 => cond k_675 (Rt.bind (.ok p_most) fun x_674 => .ok (decide (x_673 ≤ x_674))) (.ok false)) (.ok false)) := (tb_ret (te_and (te_isi (te_var (c := cA) rfl)) (te_chain o_le o_le (te_var (c := cI) rfl) (tg_one (tg_len (ts_T (te_cast asT (te_var (c := cA) rfl) asT_ok)))) (te_var (c := cI) rfl))))
theorem T_is_row_values : TF m_is_row_values (qc cA (qc cI (q1 cI))) cB (fun x => t_is_row_values x.1 x.2.1 x.2.2) := tf_b (fun a => B_is_row_values a.1 a.2.1 a.2.2) rfl rfl
def t_is_kind (p_kinds : Int) (p_value : Pv) : Rt Bool := (t_is_between p_value (0 : Int) (p_kinds - (1 : Int)))
theorem B_is_kind (p_kinds : Int) (p_value : Pv) : TB 2 [(0, .val (cI.d p_kinds)), (1, .val (cA.d p_value))] b_is_kind cB (Rt.bind (Rt.bind (.ok p_value) fun x_697 => Rt.bind (Rt.bind (.ok (0 : Int)) fun x_695 => Rt.bind (Rt.bind (.ok p_kinds) fun x_693 => (Rt.bind (.ok (1 : Int)) fun x_694 => (.ok (x_693 - x_694)))) fun x_696 => .ok (x_695, x_696)) fun x_698 => .ok (x_697, x_698)) fun x => t_is_between x.1 x.2.1 x.2.2) := (tb_ret (te_call T_is_between (ta_cons (te_var (c := cA) rfl) (ta_cons te_int (ta_one (te_op o_sub (te_var (c := cI) rfl) te_int)))) rfl (fun _ => rfl)))
theorem T_is_kind : TF m_is_kind (qc cI (q1 cA)) cB (fun x => t_is_kind x.1 x.2) := tf_b (fun a => B_is_kind a.1 a.2) rfl rfl
def t_is_row_wants (p_kinds : Int) (p_value : Pv) : Rt Bool := (Rt.bind (Rt.bind (Rt.bind (isiR p_value .tup) fun x_700 => (.ok (!x_700))) fun k_707 => cond k_707 (.ok true) (Rt.bind (Rt.bind (Rt.bind (asT p_value) fun x_701 => (.ok (x_701.length : Int))) fun x_703 => (cond (decide ((1 : Int) ≤ x_703)) (.ok (decide (x_703 ≤ (7 : Int)))) (.ok false))) fun x_706 => (.ok (!x_706)))) fun k_713 => cond k_713 (.ok false) (Rt.bind (Rt.bind (asT p_value) fun xs_711 => Rt.bind (lcT xs_711 (fun (x_708 : Pv) => (.ok true)) (fun (x_708 : Pv) => (t_is_kind p_kinds x_708))) lineR) fun x_712 => (.ok (x_712.all id))))
theorem B_is_row_wants (p_kinds : Int) (p_value : Pv) : TB 3 [(0, .val (cI.d p_kinds)), (1, .val (cA.d p_value))] b_is_row_wants cB (Rt.bind (Rt.bind (Rt.bind (Rt.bind (.ok p_value) fun x_699 => isiR x_699 .tup) fun x_700 => (.ok (!x_700))) fun k_707 => cond k_707 (.ok true) (Rt.bind (Rt.bind (.ok (1 : Int)) fun x_702 => Rt.bind (Rt.bind (Rt.bind (.ok p_value) asT) fun x_701 => (.ok (x_701.length : Int))) fun x_703 => Rt.bind (.ok (decide (x_702 ≤ x_703))) fun k_705 => cond k_705 (Rt.bind (.ok (7 : Int)) fun x_704 => .ok (decide (x_703 ≤ x_704))) (.ok false)) fun x_706 => (.ok (!x_706)))) fun k_713 => cond k_713 (.ok false) (Rt.bind (Rt.bind (Rt.bind (.ok p_value) asT) fun xs_711 => Rt.bind (lcT xs_711 (fun (x_708 : Pv) => (.ok true)) (fun (x_708 : Pv) => (Rt.bind (Rt.bind (.ok p_kinds) fun x_709 => Rt.bind (.ok x_708) fun x_710 => .ok (x_709, x_710)) fun x => t_is_kind x.1 x.2))) lineR) fun x_712 => (.ok (x_712.all id)))) := (tb_guard (tt_or (tt_not (tt_test (te_isi (te_var (c := cA) rfl)))) (tt_not (tt_test (te_chain o_le o_le te_int (tg_one (tg_len (ts_T (te_cast asT (te_var (c := cA) rfl) asT_ok)))) te_int)))) (tb_ret te_bl) (tb_ret (tg_one (tg_un u_all (te_valL (tg_lc (ti_T (te_cast asT (te_var (c := cA) rfl) asT_ok)) rfl (fun x_708 => (gc_set rfl rfl)) (fun x_708 => tt_yes) (fun x_708 => (te_call T_is_kind (ta_cons (te_var (c := cI) rfl) (ta_one (te_var (c := cA) rfl))) rfl (fun _ => rfl)))))))))
theorem T_is_row_wants : TF m_is_row_wants (qc cI (q1 cA)) cB (fun x => t_is_row_wants x.1 x.2) := tf_b (fun a => B_is_row_wants a.1 a.2) rfl rfl
def t_is_goal (p_kinds : Int) (p_row : (List Int)) (p_value : Pv) : Rt Bool := (Rt.bind (t_is_row_wants p_kinds p_value) fun k_727 => cond k_727 (Rt.bind (Rt.bind (asTI p_value) fun x_723 => sortR cI x_723) fun x_725 => (Rt.bind (sortR cI p_row) fun x_726 => (.ok (decide (x_725 = x_726))))) (.ok false))
theorem B_is_goal (p_kinds : Int) (p_row : (List Int)) (p_value : Pv) : TB 3 [(0, .val (cI.d p_kinds)), (1, .val ((cT cI).d p_row)), (2, .val (cA.d p_value))] b_is_goal cB (Rt.bind (Rt.bind (Rt.bind (.ok p_kinds) fun x_721 => Rt.bind (.ok p_value) fun x_722 => .ok (x_721, x_722)) fun x => t_is_row_wants x.1 x.2) fun k_727 => cond k_727 (Rt.bind (Rt.bind (Rt.bind (.ok p_value) asTI) fun x_723 => sortR cI x_723) fun x_725 => (Rt.bind (Rt.bind (.ok p_row) fun x_724 => sortR cI x_724) fun x_726 => (.ok (decide (x_725 = x_726))))) (.ok false)) := (tb_ret (te_and (te_call T_is_row_wants (ta_cons (te_var (c := cI) rfl) (ta_one (te_var (c := cA) rfl))) rfl (fun _ => rfl)) (te_op (o_eq (c := (cL cI)) rfl) (te_valL (tg_one (tg_sort (ts_T (te_cast asTI (te_var (c := cA) rfl) asTI_ok))))) (te_valL (tg_one (tg_sort (ts_T (te_var (c := (cT cI)) rfl))))))))
theorem T_is_goal : TF m_is_goal (qc cI (qc (cT cI) (q1 cA))) cB (fun x => t_is_goal x.1 x.2.1 x.2.2) := tf_b (fun a => B_is_goal a.1 a.2.1 a.2.2) rfl rfl
def t_is_string (p_value : Pv) : Rt Bool := (isiR p_value .str)
theorem B_is_string (p_value : Pv) : TB 1 [(0, .val (cA.d p_value))] b_is_string cB (Rt.bind (.ok p_value) fun x_731 => isiR x_731 .str) := (tb_ret (te_isi (te_var (c := cA) rfl)))
theorem T_is_string : TF m_is_string (q1 cA) cB (fun x => t_is_string x) := tf_b (fun a => B_is_string a) rfl rfl
def t_is_way (p_value : Pv) : Rt Bool := (Rt.bind (t_is_string p_value) fun k_734 => cond k_734 (Rt.bind (asS p_value) fun x_732 => (.ok (negB false (decide (x_732 ∈ (["any", "near", "move", "front"] : List Str)))))) (.ok false))
theorem B_is_way (p_value : Pv) : TB 1 [(0, .val (cA.d p_value))] b_is_way cB (Rt.bind (Rt.bind (.ok p_value) fun x => t_is_string x) fun k_734 => cond k_734 (Rt.bind (Rt.bind (.ok p_value) asS) fun x_732 => (Rt.bind (.ok (["any", "near", "move", "front"] : List Str)) fun x_733 => (.ok (negB false (decide (x_732 ∈ x_733)))))) (.ok false)) := (tb_ret (te_and (te_call T_is_string (ta_one (te_var (c := cA) rfl)) rfl (fun _ => rfl)) (te_in (c := cS) (te_cast asS (te_var (c := cA) rfl) asS_ok) (ts_K (te_c (c := cK cS))))))
theorem T_is_way : TF m_is_way (q1 cA) cB (fun x => t_is_way x) := tf_b (fun a => B_is_way a) rfl rfl
def t_check_way (p_way : Pv) : Rt Unit := (Rt.bind (Rt.bind (Rt.bind (Rt.bind (t_is_way p_way) fun x_735 => (.ok (!x_735))) fun k_737 => cond k_737 (.bad : Rt Unit) (.ok ())) fun s_736 => (.ok ())) fun _ => .ok ())
theorem B_check_way (p_way : Pv) : TN 1 [(0, .val (cA.d p_way))] b_check_way (Rt.bind (Rt.bind (Rt.bind (Rt.bind (.ok p_way) fun x => t_is_way x) fun x_735 => (.ok (!x_735))) fun k_737 => cond k_737 (.bad : Rt Unit) (Rt.bind (.ok ()) fun _ => (.ok ()))) fun s_736 => (.ok ())) (fun (_ : Unit) => []) := (tn_to (fun s_736 => ()) (tn_if (Gs := (fun (s_736 : Unit) => [])) (tt_not (tt_test (te_call T_is_way (ta_one (te_var (c := cA) rfl)) rfl (fun _ => rfl)))) tn_bad (tn_to (fun _ => ()) tn_skip (fun _ => trivial))) (fun s_736 => trivial))
theorem T_check_way : TF m_check_way (q1 cA) cN (fun x => t_check_way x) := tf_n (fun a => B_check_way a) rfl rfl
def t_check_rows (p_kinds : Int) (p_rows : (List (List Int))) (p_way : Str) : Rt Unit := (Rt.bind (Rt.bind (Rt.bind (t_check_kinds (anyOf cI p_kinds)) fun _ => .ok ()) fun u_741 => (Rt.bind (Rt.bind (Rt.bind (t_is_row_values (anyOf (cT (cT cI)) p_rows) (1 : Int) (6 : Int)) fun x_748 => (.ok (!x_748))) fun k_778 => cond k_778 (.bad : Rt Unit) (.ok ())) fun s_777 => (Rt.bind (forT p_rows () (fun (s_749 : Unit) (x_750 : (List Int)) => (Rt.bind (Rt.bind (Rt.bind (Rt.bind (t_is_row_wants p_kinds (anyOf (cT cI) x_750)) fun x_755 => (.ok (!x_755))) fun k_771 => cond k_771 (.ok true) (Rt.bind (Rt.bind (Rt.bind (Rt.bind (Rt.bind (ixR p_rows (0 : Int)) fun x_758 => (.ok (anyOf (cT cI) x_758))) fun x_760 => .ok (p_kinds, x_760)) fun x => t_is_row_wants x.1 x.2) fun x_761 => (.ok (!x_761))) fun k_770 => cond k_770 (.ok true) (Rt.bind (Rt.bind (Rt.bind (Rt.bind (ixR p_rows (0 : Int)) fun x_765 => .ok (x_765, anyOf (cT cI) x_750)) fun x_768 => .ok (p_kinds, x_768)) fun x => t_is_goal x.1 x.2.1 x.2.2) fun x_769 => (.ok (!x_769))))) fun k_780 => cond k_780 (.bad : Rt Unit) (.ok ())) fun s_779 => (.ok ())))) fun s_772 => (Rt.bind (Rt.bind (t_check_way (anyOf cS p_way)) fun _ => .ok ()) fun u_776 => (.ok ()))))) fun _ => .ok ())
theorem B_check_rows (p_kinds : Int) (p_rows : (List (List Int))) (p_way : Str) : TN 4 [(0, .val (cI.d p_kinds)), (1, .val ((cT (cT cI)).d p_rows)), (2, .val (cS.d p_way))] b_check_rows (Rt.bind (Rt.bind (Rt.bind (Rt.bind (.ok p_kinds) fun x_738 => (.ok (anyOf cI x_738))) fun x => t_check_kinds x) fun _ => .ok ()) fun u_741 => (Rt.bind (Rt.bind (Rt.bind (Rt.bind (Rt.bind (Rt.bind (.ok p_rows) fun x_742 => (.ok (anyOf (cT (cT cI)) x_742))) fun x_745 => Rt.bind (Rt.bind (.ok (1 : Int)) fun x_743 => Rt.bind (.ok (6 : Int)) fun x_744 => .ok (x_743, x_744)) fun x_746 => .ok (x_745, x_746)) fun x => t_is_row_values x.1 x.2.1 x.2.2) fun x_748 => (.ok (!x_748))) fun k_778 => cond k_778 (.bad : Rt Unit) (Rt.bind (.ok ()) fun _ => (.ok ()))) fun s_777 => (Rt.bind (Rt.bind (.ok p_rows) fun xs_781 => forT xs_781 () (fun (s_749 : Unit) (x_750 : (List Int)) => (Rt.bind (Rt.bind (Rt.bind (Rt.bind (Rt.bind (Rt.bind (.ok p_kinds) fun x_752 => Rt.bind (Rt.bind (.ok x_750) fun x_751 => (.ok (anyOf (cT cI) x_751))) fun x_753 => .ok (x_752, x_753)) fun x => t_is_row_wants x.1 x.2) fun x_755 => (.ok (!x_755))) fun k_771 => cond k_771 (.ok true) (Rt.bind (Rt.bind (Rt.bind (Rt.bind (.ok p_kinds) fun x_759 => Rt.bind (Rt.bind (Rt.bind (.ok p_rows) fun x_756 => (Rt.bind (.ok (0 : Int)) fun x_757 => ixR x_756 x_757)) fun x_758 => (.ok (anyOf (cT cI) x_758))) fun x_760 => .ok (x_759, x_760)) fun x => t_is_row_wants x.1 x.2) fun x_761 => (.ok (!x_761))) fun k_770 => cond k_770 (.ok true) (Rt.bind (Rt.bind (Rt.bind (.ok p_kinds) fun x_767 => Rt.bind (Rt.bind (Rt.bind (.ok p_rows) fun x_762 => (Rt.bind (.ok (0 : Int)) fun x_763 => ixR x_762 x_763)) fun x_765 => Rt.bind (Rt.bind (.ok x_750) fun x_764 => (.ok (anyOf (cT cI) x_764))) fun x_766 => .ok (x_765, x_766)) fun x_768 => .ok (x_767, x_768)) fun x => t_is_goal x.1 x.2.1 x.2.2) fun x_769 => (.ok (!x_769))))) fun k_780 => cond k_780 (.bad : Rt Unit) (Rt.bind (.ok ()) fun _ => (.ok ()))) fun s_779 => (.ok ())))) fun s_772 => (Rt.bind (Rt.bind (Rt.bind (Rt.bind (.ok p_way) fun x_773 => (.ok (anyOf cS x_773))) fun x => t_check_way x) fun _ => .ok ()) fun u_776 => (.ok ()))))) (fun (_ : Unit) => []) := (tn_seq (tn_do (te_call T_check_kinds (ta_one (te_any (te_var (c := cI) rfl))) rfl (fun _ => rfl))) (fun u_741 => (tn_seq (tn_if (Gs := (fun (s_777 : Unit) => [(0, .val (cI.d p_kinds)), (1, .val ((cT (cT cI)).d p_rows)), (2, .val (cS.d p_way))])) (tt_not (tt_test (te_call T_is_row_values (ta_cons (te_any (te_var (c := (cT (cT cI))) rfl)) (ta_cons te_int (ta_one te_int))) rfl (fun _ => rfl)))) tn_bad (tn_to (fun _ => ()) tn_skip (fun _ => (by exact ⟨rfl, rfl, rfl, trivial⟩)))) (fun s_777 => (tn_seq (tn_for (s0 := ()) (Gs := (fun (s_749 : Unit) => [(0, .val (cI.d p_kinds)), (1, .val ((cT (cT cI)).d p_rows)), (2, .val (cS.d p_way))])) (ti_T (te_var (c := (cT (cT cI))) rfl)) (by exact ⟨rfl, rfl, rfl, trivial⟩) (fun s_749 x_750 => (gt_set rfl)) (fun s_749 x_750 => (tn_to (fun s_779 => ()) (tn_if (Gs := (fun (s_779 : Unit) => [(0, .val (cI.d p_kinds)), (1, .val ((cT (cT cI)).d p_rows)), (2, .val (cS.d p_way)), (3, .val ((cT cI).d x_750))])) (tt_or (tt_not (tt_test (te_call T_is_row_wants (ta_cons (te_var (c := cI) rfl) (ta_one (te_any (te_var (c := (cT cI)) rfl)))) rfl (fun _ => rfl)))) (tt_or (tt_not (tt_test (te_call T_is_row_wants (ta_cons (te_var (c := cI) rfl) (ta_one (te_any (te_ix (ts_T (te_var (c := (cT (cT cI))) rfl)) te_int)))) rfl (fun _ => rfl)))) (tt_not (tt_test (te_call T_is_goal (ta_cons (te_var (c := cI) rfl) (ta_cons (te_ix (ts_T (te_var (c := (cT (cT cI))) rfl)) te_int) (ta_one (te_any (te_var (c := (cT cI)) rfl))))) rfl (fun _ => rfl)))))) tn_bad (tn_to (fun _ => ()) tn_skip (fun _ => (by exact ⟨rfl, rfl, rfl, rfl, trivial⟩)))) (fun s_779 => (by exact ⟨rfl, rfl, rfl, trivial⟩))))) (fun s_772 => (tn_to (fun u_776 => ()) (tn_do (te_call T_check_way (ta_one (te_any (te_var (c := cS) rfl))) rfl (fun _ => rfl))) (fun u_776 => trivial))))))))
theorem T_check_rows : TF m_check_rows (qc cI (qc (cT (cT cI)) (q1 cS))) cN (fun x => t_check_rows x.1 x.2.1 x.2.2) := tf_n (fun a => B_check_rows a.1 a.2.1 a.2.2) rfl rfl
def t_pairs_of (p_row : (List Int)) (p_way : Str) : Rt (List (Int × Int)) := (Rt.bind (.ok ((p_row.length : Int) - (1 : Int))) fun last_890 => (cond (decide (p_way = ("near" : Str))) (Rt.bind (rngR1 last_890) fun xs_899 => Rt.bind (lcT xs_899 (fun (x_894 : Int) => (.ok true)) (fun (x_894 : Int) => (.ok (x_894, x_894 + (1 : Int))))) lineR) (cond (decide (p_way = ("ring" : Str))) (Rt.bind (Rt.bind (rngR1 last_890) fun xs_908 => Rt.bind (lcT xs_908 (fun (x_903 : Int) => (.ok true)) (fun (x_903 : Int) => (.ok (x_903, x_903 + (1 : Int))))) lineR) fun x_916 => (Rt.bind (cond (decide ((1 : Int) < last_890)) (lineR (((0 : Int), last_890) :: ([] : List (Int × Int)))) (lineR ([] : List (Int × Int)))) fun x_917 => catR x_916 x_917)) (cond (negB false (decide (p_way ∈ [(("front" : Str), ("flip" : Str)).1, (("front" : Str), ("flip" : Str)).2]))) (Rt.bind (rngR2 (1 : Int) (p_row.length : Int)) fun xs_929 => Rt.bind (lcT xs_929 (fun (x_926 : Int) => (.ok true)) (fun (x_926 : Int) => (.ok ((0 : Int), x_926)))) lineR) (Rt.bind (Rt.bind (rngR1 (p_row.length : Int)) fun xs_940 => (Rt.bind (lcT2 xs_940 (fun (x_932 : Int) => (.ok true)) (fun (x_932 : Int) => (rngR1 (p_row.length : Int))) (fun (x_932 : Int) (y_935 : Int) => (.ok (!decide (x_932 = y_935)))) (fun (x_932 : Int) (y_935 : Int) => (.ok (x_932, y_935)))) lineR)) fun pairs_941 => (cond (decide (p_way = ("move" : Str))) (.ok pairs_941) (Rt.bind (lcT pairs_941 (fun (x_944 : (Int × Int)) => (.ok (decide (x_944.1 < x_944.2)))) (fun (x_944 : (Int × Int)) => (.ok (x_944.1, x_944.2)))) lineR)))))))
theorem B_pairs_of (p_row : (List Int)) (p_way : Str) : TB 7 [(0, .val ((cT cI).d p_row)), (1, .val (cS.d p_way))] b_pairs_of (cL (cP (qc cI (q1 cI)))) (Rt.bind (Rt.bind (Rt.bind (.ok p_row) fun x_887 => (.ok (x_887.length : Int))) fun x_888 => (Rt.bind (.ok (1 : Int)) fun x_889 => (.ok (x_888 - x_889)))) fun last_890 => (Rt.bind (Rt.bind (.ok p_way) fun x_891 => (Rt.bind (.ok ("near" : Str)) fun x_892 => (.ok (decide (x_891 = x_892))))) fun k_953 => cond k_953 (Rt.bind (Rt.bind (.ok last_890) fun x_893 => rngR1 x_893) fun xs_899 => Rt.bind (lcT xs_899 (fun (x_894 : Int) => (.ok true)) (fun (x_894 : Int) => (Rt.bind (.ok x_894) fun x_897 => Rt.bind (Rt.bind (.ok x_894) fun x_895 => (Rt.bind (.ok (1 : Int)) fun x_896 => (.ok (x_895 + x_896)))) fun x_898 => .ok (x_897, x_898)))) lineR) (Rt.bind (Rt.bind (.ok p_way) fun x_900 => (Rt.bind (.ok ("ring" : Str)) fun x_901 => (.ok (decide (x_900 = x_901))))) fun k_952 => cond k_952 (Rt.bind (Rt.bind (Rt.bind (.ok last_890) fun x_902 => rngR1 x_902) fun xs_908 => Rt.bind (lcT xs_908 (fun (x_903 : Int) => (.ok true)) (fun (x_903 : Int) => (Rt.bind (.ok x_903) fun x_906 => Rt.bind (Rt.bind (.ok x_903) fun x_904 => (Rt.bind (.ok (1 : Int)) fun x_905 => (.ok (x_904 + x_905)))) fun x_907 => .ok (x_906, x_907)))) lineR) fun x_916 => (Rt.bind (Rt.bind (Rt.bind (.ok last_890) fun x_909 => (Rt.bind (.ok (1 : Int)) fun x_910 => (.ok (decide (x_910 < x_909))))) fun k_915 => cond k_915 (Rt.bind (Rt.bind (Rt.bind (.ok (0 : Int)) fun x_911 => Rt.bind (.ok last_890) fun x_912 => .ok (x_911, x_912)) fun x_913 => Rt.bind (.ok ([] : List (Int × Int))) fun x_914 => .ok (x_913 :: x_914)) lineR) (Rt.bind (.ok ([] : List (Int × Int))) lineR)) fun x_917 => catR x_916 x_917)) (Rt.bind (Rt.bind (.ok p_way) fun x_921 => (Rt.bind (Rt.bind (Rt.bind (.ok ("front" : Str)) fun x_918 => Rt.bind (.ok ("flip" : Str)) fun x_919 => .ok (x_918, x_919)) fun x_920 => (.ok [x_920.1, x_920.2])) fun x_922 => (.ok (negB false (decide (x_921 ∈ x_922)))))) fun k_951 => cond k_951 (Rt.bind (Rt.bind (.ok (1 : Int)) fun x_924 => (Rt.bind (Rt.bind (.ok p_row) fun x_923 => (.ok (x_923.length : Int))) fun x_925 => rngR2 x_924 x_925)) fun xs_929 => Rt.bind (lcT xs_929 (fun (x_926 : Int) => (.ok true)) (fun (x_926 : Int) => (Rt.bind (.ok (0 : Int)) fun x_927 => Rt.bind (.ok x_926) fun x_928 => .ok (x_927, x_928)))) lineR) (Rt.bind (Rt.bind (Rt.bind (Rt.bind (.ok p_row) fun x_930 => (.ok (x_930.length : Int))) fun x_931 => rngR1 x_931) fun xs_940 => (Rt.bind (lcT2 xs_940 (fun (x_932 : Int) => (.ok true)) (fun (x_932 : Int) => (Rt.bind (Rt.bind (.ok p_row) fun x_933 => (.ok (x_933.length : Int))) fun x_934 => rngR1 x_934)) (fun (x_932 : Int) (y_935 : Int) => (Rt.bind (.ok x_932) fun x_936 => (Rt.bind (.ok y_935) fun x_937 => (.ok (!decide (x_936 = x_937)))))) (fun (x_932 : Int) (y_935 : Int) => (Rt.bind (.ok x_932) fun x_938 => Rt.bind (.ok y_935) fun x_939 => .ok (x_938, x_939)))) lineR)) fun pairs_941 => (Rt.bind (Rt.bind (.ok p_way) fun x_942 => (Rt.bind (.ok ("move" : Str)) fun x_943 => (.ok (decide (x_942 = x_943))))) fun k_950 => cond k_950 (.ok pairs_941) (Rt.bind (.ok pairs_941) fun xs_949 => Rt.bind (lcT xs_949 (fun (x_944 : (Int × Int)) => (Rt.bind (.ok x_944.1) fun x_945 => (Rt.bind (.ok x_944.2) fun x_946 => (.ok (decide (x_945 < x_946)))))) (fun (x_944 : (Int × Int)) => (Rt.bind (.ok x_944.1) fun x_947 => Rt.bind (.ok x_944.2) fun x_948 => .ok (x_947, x_948)))) lineR))))))) := (tb_seq (tn_set (te_op o_sub (tg_one (tg_len (ts_T (te_var (c := (cT cI)) rfl)))) te_int) rfl) (fun last_890 => (tb_guard (tt_test (te_op (o_eq (c := cS) rfl) (te_var (c := cS) rfl) te_str)) (tb_ret (te_valL (tg_lc (tg_one (tg_un u_rng1 (te_var (c := cI) rfl))) rfl (fun x_894 => (gc_set rfl rfl)) (fun x_894 => tt_yes) (fun x_894 => (te_tupP (q := (qc cI (q1 cI))) (ta_cons (te_var (c := cI) rfl) (ta_one (te_op o_add (te_var (c := cI) rfl) te_int))) rfl))))) (tb_guard (tt_test (te_op (o_eq (c := cS) rfl) (te_var (c := cS) rfl) te_str)) (tb_ret (te_op o_addL (te_valL (tg_lc (tg_one (tg_un u_rng1 (te_var (c := cI) rfl))) rfl (fun x_903 => (gc_set rfl rfl)) (fun x_903 => tt_yes) (fun x_903 => (te_tupP (q := (qc cI (q1 cI))) (ta_cons (te_var (c := cI) rfl) (ta_one (te_op o_add (te_var (c := cI) rfl) te_int))) rfl)))) (te_valL (tg_if (tt_test (te_op o_gt (te_var (c := cI) rfl) te_int)) (tg_lstL (th_cons (te_tupP (q := (qc cI (q1 cI))) (ta_cons te_int (ta_one (te_var (c := cI) rfl))) rfl) (th_nil (c := (cP (qc cI (q1 cI))))))) (tg_lstL (th_nil (c := (cP (qc cI (q1 cI)))))))))) (tb_guard (tt_test (te_in (c := cS) (te_var (c := cS) rfl) (ts_T (te_re (c := (cP (qc cS (q1 cS)))) (c' := (cT cS)) (fun a => [a.1, a.2]) (te_tupP (q := (qc cS (q1 cS))) (ta_cons te_str (ta_one te_str)) rfl) (fun _ => rfl))))) (tb_ret (te_valL (tg_lc (tg_two (te_op o_rng2 te_int (tg_one (tg_len (ts_T (te_var (c := (cT cI)) rfl)))))) rfl (fun x_926 => (gc_set rfl rfl)) (fun x_926 => tt_yes) (fun x_926 => (te_tupP (q := (qc cI (q1 cI))) (ta_cons te_int (ta_one (te_var (c := cI) rfl))) rfl))))) (tb_seq (tn_set (te_valL (tg_lc2 (tg_one (tg_un u_rng1 (tg_one (tg_len (ts_T (te_var (c := (cT cI)) rfl)))))) rfl (fun x_932 => (gc_set rfl rfl)) (fun x_932 => tt_yes) (fun x_932 => (tg_one (tg_un u_rng1 (tg_one (tg_len (ts_T (te_var (c := (cT cI)) rfl))))))) (fun x_932 y_935 => (gc_set rfl rfl)) (fun x_932 y_935 => (tt_test (te_op (o_ne (c := cI) rfl) (te_var (c := cI) rfl) (te_var (c := cI) rfl)))) (fun x_932 y_935 => (te_tupP (q := (qc cI (q1 cI))) (ta_cons (te_var (c := cI) rfl) (ta_one (te_var (c := cI) rfl))) rfl)) rfl)) rfl) (fun pairs_941 => (tb_ret (tg_if (tt_test (te_op (o_eq (c := cS) rfl) (te_var (c := cS) rfl) te_str)) (te_var (c := (cL (cP (qc cI (q1 cI))))) rfl) (te_valL (tg_lc (ti_L (te_var (c := (cL (cP (qc cI (q1 cI))))) rfl)) rfl (fun x_944 => (gc_P (gcs_cons (gc_set rfl rfl) (gcs_cons (gc_set rfl rfl) gcs_nil)))) (fun x_944 => (tt_test (te_op o_lt (te_var (c := cI) rfl) (te_var (c := cI) rfl)))) (fun x_944 => (te_tupP (q := (qc cI (q1 cI))) (ta_cons (te_var (c := cI) rfl) (ta_one (te_var (c := cI) rfl))) rfl)))))))))))))
theorem T_pairs_of : TF m_pairs_of (qc (cT cI) (q1 cS)) (cL (cP (qc cI (q1 cI)))) (fun x => t_pairs_of x.1 x.2) := tf_b (fun a => B_pairs_of a.1 a.2) rfl rfl
def t_shifted (p_row : (List Int)) (p_one : Int) (p_other : Int) : Rt (List Int) := (Rt.bind (lineR ((Ev.cutD p_row none (some p_one)) ++ ((Ev.cutD p_row (some (p_one + (1 : Int))) none) ++ ([] : List Int)))) fun left_1012 => (Rt.bind (Rt.bind (Rt.bind (ixR p_row p_one) fun x_1025 => .ok (x_1025 :: ((Ev.cutD left_1012 (some p_other) none) ++ ([] : List Int)))) fun x_1028 => .ok ((Ev.cutD left_1012 none (some p_other)) ++ x_1028)) lineR))
theorem B_shifted (p_row : (List Int)) (p_one : Int) (p_other : Int) : TB 4 [(0, .val ((cT cI).d p_row)), (1, .val (cI.d p_one)), (2, .val (cI.d p_other))] b_shifted (cT cI) (Rt.bind (Rt.bind (Rt.bind (Rt.bind (.ok p_row) fun x_999 => (Rt.bind (.ok none) fun x_1000 => (Rt.bind (Rt.bind (.ok p_one) fun x_998 => (.ok (some x_998))) fun x_1001 => (.ok (Ev.cutD x_999 x_1000 x_1001))))) fun x_1010 => Rt.bind (Rt.bind (Rt.bind (.ok p_row) fun x_1005 => (Rt.bind (Rt.bind (Rt.bind (.ok p_one) fun x_1002 => (Rt.bind (.ok (1 : Int)) fun x_1003 => (.ok (x_1002 + x_1003)))) fun x_1004 => (.ok (some x_1004))) fun x_1006 => (Rt.bind (.ok none) fun x_1007 => (.ok (Ev.cutD x_1005 x_1006 x_1007))))) fun x_1008 => Rt.bind (.ok ([] : List Int)) fun x_1009 => .ok (x_1008 ++ x_1009)) fun x_1011 => .ok (x_1010 ++ x_1011)) lineR) fun left_1012 => (Rt.bind (Rt.bind (Rt.bind (.ok left_1012) fun x_1014 => (Rt.bind (.ok none) fun x_1015 => (Rt.bind (Rt.bind (.ok p_other) fun x_1013 => (.ok (some x_1013))) fun x_1016 => (.ok (Ev.cutD x_1014 x_1015 x_1016))))) fun x_1027 => Rt.bind (Rt.bind (Rt.bind (.ok p_row) fun x_1017 => (Rt.bind (.ok p_one) fun x_1018 => ixR x_1017 x_1018)) fun x_1025 => Rt.bind (Rt.bind (Rt.bind (.ok left_1012) fun x_1020 => (Rt.bind (Rt.bind (.ok p_other) fun x_1019 => (.ok (some x_1019))) fun x_1021 => (Rt.bind (.ok none) fun x_1022 => (.ok (Ev.cutD x_1020 x_1021 x_1022))))) fun x_1023 => Rt.bind (.ok ([] : List Int)) fun x_1024 => .ok (x_1023 ++ x_1024)) fun x_1026 => .ok (x_1025 :: x_1026)) fun x_1028 => .ok (x_1027 ++ x_1028)) lineR)) := (tb_seq (tn_set (te_valL (tg_lstL (th_star (ts_T (te_slT (te_var (c := (cT cI)) rfl) to_none (to_some (te_var (c := cI) rfl)))) (th_star (ts_T (te_slT (te_var (c := (cT cI)) rfl) (to_some (te_op o_add (te_var (c := cI) rfl) te_int)) to_none)) (th_nil (c := cI)))))) rfl) (fun left_1012 => (tb_ret (te_tupT (th_star (ts_L (te_slL (te_var (c := (cL cI)) rfl) to_none (to_some (te_var (c := cI) rfl)))) (th_cons (te_ix (ts_T (te_var (c := (cT cI)) rfl)) (te_var (c := cI) rfl)) (th_star (ts_L (te_slL (te_var (c := (cL cI)) rfl) (to_some (te_var (c := cI) rfl)) to_none)) (th_nil (c := cI)))))))))
theorem T_shifted : TF m_shifted (qc (cT cI) (qc cI (q1 cI))) (cT cI) (fun x => t_shifted x.1 x.2.1 x.2.2) := tf_b (fun a => B_shifted a.1 a.2.1 a.2.2) rfl rfl
def t_put_in_each (p_row : (List Int)) (p_one : Int) (p_other : Int) : Rt (List Int) := (Rt.bind (.ok p_row) fun found_1042 => (Rt.bind (Rt.bind (ixR p_row p_other) fun x_1047 => (Rt.bind (ixR p_row p_one) fun x_1048 => (Rt.bind (setR found_1042 p_one x_1047) fun ys_1051 => (setR ys_1051 p_other x_1048)))) fun found_1052 => (.ok found_1052)))
theorem B_put_in_each (p_row : (List Int)) (p_one : Int) (p_other : Int) : TB 4 [(0, .val ((cT cI).d p_row)), (1, .val (cI.d p_one)), (2, .val (cI.d p_other))] b_put_in_each (cT cI) (Rt.bind (Rt.bind (.ok p_row) fun x_1041 => (.ok x_1041)) fun found_1042 => (Rt.bind (Rt.bind (Rt.bind (.ok p_row) fun x_1043 => (Rt.bind (.ok p_other) fun x_1044 => ixR x_1043 x_1044)) fun x_1047 => Rt.bind (Rt.bind (.ok p_row) fun x_1045 => (Rt.bind (.ok p_one) fun x_1046 => ixR x_1045 x_1046)) fun x_1048 => Rt.bind (Rt.bind (.ok p_one) fun x_1049 => setR found_1042 x_1049 x_1047) fun ys_1051 => Rt.bind (.ok p_other) fun x_1050 => setR ys_1051 x_1050 x_1048) fun found_1052 => (.ok found_1052))) := (tb_seq (tn_own (tg_one (tg_list (ts_T (te_var (c := (cT cI)) rfl)))) rfl) (fun found_1042 => (tb_seq (tn_item2 rfl (te_ix (ts_T (te_var (c := (cT cI)) rfl)) (te_var (c := cI) rfl)) (te_ix (ts_T (te_var (c := (cT cI)) rfl)) (te_var (c := cI) rfl)) rfl (te_var (c := cI) rfl) (fun ys_1051 => (te_var (c := cI) rfl))) (fun found_1052 => (tb_ret (tg_one (te_tupOwn (c := cI) rfl)))))))
theorem T_put_in_each : TF m_put_in_each (qc (cT cI) (qc cI (q1 cI))) (cT cI) (fun x => t_put_in_each x.1 x.2.1 x.2.2) := tf_b (fun a => B_put_in_each a.1 a.2.1 a.2.2) rfl rfl
def t_done_by (p_row : (List Int)) (p_way : Str) (p_pair : (Int × Int)) : Rt (List Int) := (cond (negB false (decide (p_way ∈ (["stretch", "flip"] : List Str)))) (.bad : Rt (List Int)) (cond (decide (p_way = ("move" : Str))) (t_shifted p_row p_pair.1 p_pair.2) (cond (decide (p_way = ("front" : Str))) (t_shifted p_row p_pair.2 (0 : Int)) (t_put_in_each p_row p_pair.1 p_pair.2))))
theorem B_done_by (p_row : (List Int)) (p_way : Str) (p_pair : (Int × Int)) : TB 3 [(0, .val ((cT cI).d p_row)), (1, .val (cS.d p_way)), (2, .val ((cP (qc cI (q1 cI))).d p_pair))] b_done_by (cT cI) (Rt.bind (Rt.bind (.ok p_way) fun x_1053 => (Rt.bind (.ok (["stretch", "flip"] : List Str)) fun x_1054 => (.ok (negB false (decide (x_1053 ∈ x_1054)))))) fun k_1078 => cond k_1078 (.bad : Rt (List Int)) (Rt.bind (Rt.bind (.ok p_way) fun x_1055 => (Rt.bind (.ok ("move" : Str)) fun x_1056 => (.ok (decide (x_1055 = x_1056))))) fun k_1077 => cond k_1077 (Rt.bind (Rt.bind (.ok p_row) fun x_1061 => Rt.bind (Rt.bind (Rt.bind (.ok p_pair) fun x_1057 => (.ok x_1057.1)) fun x_1059 => Rt.bind (Rt.bind (.ok p_pair) fun x_1058 => (.ok x_1058.2)) fun x_1060 => .ok (x_1059, x_1060)) fun x_1062 => .ok (x_1061, x_1062)) fun x => t_shifted x.1 x.2.1 x.2.2) (Rt.bind (Rt.bind (.ok p_way) fun x_1063 => (Rt.bind (.ok ("front" : Str)) fun x_1064 => (.ok (decide (x_1063 = x_1064))))) fun k_1076 => cond k_1076 (Rt.bind (Rt.bind (.ok p_row) fun x_1068 => Rt.bind (Rt.bind (Rt.bind (.ok p_pair) fun x_1065 => (.ok x_1065.2)) fun x_1066 => Rt.bind (.ok (0 : Int)) fun x_1067 => .ok (x_1066, x_1067)) fun x_1069 => .ok (x_1068, x_1069)) fun x => t_shifted x.1 x.2.1 x.2.2) (Rt.bind (Rt.bind (.ok p_row) fun x_1074 => Rt.bind (Rt.bind (Rt.bind (.ok p_pair) fun x_1070 => (.ok x_1070.1)) fun x_1072 => Rt.bind (Rt.bind (.ok p_pair) fun x_1071 => (.ok x_1071.2)) fun x_1073 => .ok (x_1072, x_1073)) fun x_1075 => .ok (x_1074, x_1075)) fun x => t_put_in_each x.1 x.2.1 x.2.2)))) := (tb_guard (tt_test (te_in (c := cS) (te_var (c := cS) rfl) (ts_K (te_c (c := cK cS))))) (tb_ret (te_bad (f := (cT cI).d))) (tb_guard (tt_test (te_op (o_eq (c := cS) rfl) (te_var (c := cS) rfl) te_str)) (tb_ret (te_call T_shifted (ta_cons (te_var (c := (cT cI)) rfl) (ta_cons (te_ixP (c' := cI) (fun a => a.1) (te_var (c := (cP (qc cI (q1 cI)))) rfl) (fun _ => rfl)) (ta_one (te_ixP (c' := cI) (fun a => a.2) (te_var (c := (cP (qc cI (q1 cI)))) rfl) (fun _ => rfl))))) rfl (fun _ => rfl))) (tb_guard (tt_test (te_op (o_eq (c := cS) rfl) (te_var (c := cS) rfl) te_str)) (tb_ret (te_call T_shifted (ta_cons (te_var (c := (cT cI)) rfl) (ta_cons (te_ixP (c' := cI) (fun a => a.2) (te_var (c := (cP (qc cI (q1 cI)))) rfl) (fun _ => rfl)) (ta_one te_int))) rfl (fun _ => rfl))) (tb_ret (te_call T_put_in_each (ta_cons (te_var (c := (cT cI)) rfl) (ta_cons (te_ixP (c' := cI) (fun a => a.1) (te_var (c := (cP (qc cI (q1 cI)))) rfl) (fun _ => rfl)) (ta_one (te_ixP (c' := cI) (fun a => a.2) (te_var (c := (cP (qc cI (q1 cI)))) rfl) (fun _ => rfl))))) rfl (fun _ => rfl))))))
theorem T_done_by : TF m_done_by (qc (cT cI) (qc cS (q1 (cP (qc cI (q1 cI)))))) (cT cI) (fun x => t_done_by x.1 x.2.1 x.2.2) := tf_b (fun a => B_done_by a.1 a.2.1 a.2.2) rfl rfl
def t_far_from (p_row : (List Int)) (p_way : Str) : Rt (List ((List Int) × Int)) := (Rt.bind (Rt.bind (Rt.bind (lineR (p_row :: ([] : List (List Int)))) fun x_1083 => .ok (x_1083, (0 : Int))) fun x_1086 => .ok ([(p_row, (0 : Int))], x_1086)) fun s_1087 => (Rt.bind (whileT 1000 (fun (s_1088 : ((List ((List Int) × Int)) × (List (List Int)) × Int)) => (.ok (decide (s_1088.2.2 < (s_1088.2.1.length : Int))))) (fun (s_1088 : ((List ((List Int) × Int)) × (List (List Int)) × Int)) => (Rt.bind (Rt.bind (ixR s_1088.2.1 s_1088.2.2) fun x_1096 => .ok (x_1096, s_1088.2.2 + (1 : Int))) fun s_1098 => (Rt.bind (Rt.bind (t_pairs_of s_1098.1 p_way) fun xs_1123 => forT xs_1123 (s_1088.1, s_1088.2.1) (fun (s_1101 : ((List ((List Int) × Int)) × (List (List Int)))) (x_1102 : (Int × Int)) => (Rt.bind (t_done_by s_1098.1 p_way x_1102) fun other_1107 => (Rt.bind (cond (negB true (lk s_1101.1 other_1107).isSome) (Rt.bind (Rt.bind (Rt.bind (dGetR s_1101.1 s_1098.1) fun x_1112 => (.ok (x_1112 + (1 : Int)))) fun x_1114 => (ptR s_1101.1 other_1107 x_1114)) fun known_1116 => (Rt.bind (apR s_1101.2 other_1107) fun line_1117 => (.ok (known_1116, line_1117)))) (.ok (s_1101.1, s_1101.2))) fun s_1119 => (.ok (s_1119.1, s_1119.2)))))) fun s_1120 => (.ok (s_1120.1, s_1120.2, s_1098.2))))) (s_1087.1, s_1087.2.1, s_1087.2.2)) fun s_1121 => (.ok s_1121.1)))
theorem B_far_from (p_row : (List Int)) (p_way : Str) : TB 8 [(0, .val ((cT cI).d p_row)), (1, .val (cS.d p_way))] b_far_from (cM (cT cI) cI) (Rt.bind (Rt.bind (Rt.bind (.ok p_row) fun x_1079 => (Rt.bind (.ok (0 : Int)) fun x_1080 => (.ok [(x_1079, x_1080)]))) fun x_1085 => Rt.bind (Rt.bind (Rt.bind (Rt.bind (.ok p_row) fun x_1081 => Rt.bind (.ok ([] : List (List Int))) fun x_1082 => .ok (x_1081 :: x_1082)) lineR) fun x_1083 => Rt.bind (.ok (0 : Int)) fun x_1084 => .ok (x_1083, x_1084)) fun x_1086 => .ok (x_1085, x_1086)) fun s_1087 => (Rt.bind (whileT 1000 (fun (s_1088 : ((List ((List Int) × Int)) × (List (List Int)) × Int)) => (Rt.bind (.ok s_1088.2.2) fun x_1090 => (Rt.bind (Rt.bind (.ok s_1088.2.1) fun x_1089 => (.ok (x_1089.length : Int))) fun x_1091 => (.ok (decide (x_1090 < x_1091)))))) (fun (s_1088 : ((List ((List Int) × Int)) × (List (List Int)) × Int)) => (Rt.bind (Rt.bind (Rt.bind (.ok s_1088.2.1) fun x_1092 => (Rt.bind (.ok s_1088.2.2) fun x_1093 => ixR x_1092 x_1093)) fun x_1096 => Rt.bind (Rt.bind (.ok s_1088.2.2) fun x_1094 => (Rt.bind (.ok (1 : Int)) fun x_1095 => (.ok (x_1094 + x_1095)))) fun x_1097 => .ok (x_1096, x_1097)) fun s_1098 => (Rt.bind (Rt.bind (Rt.bind (Rt.bind (.ok s_1098.1) fun x_1099 => Rt.bind (.ok p_way) fun x_1100 => .ok (x_1099, x_1100)) fun x => t_pairs_of x.1 x.2) fun xs_1123 => forT xs_1123 (s_1088.1, s_1088.2.1) (fun (s_1101 : ((List ((List Int) × Int)) × (List (List Int)))) (x_1102 : (Int × Int)) => (Rt.bind (Rt.bind (Rt.bind (.ok s_1098.1) fun x_1105 => Rt.bind (Rt.bind (.ok p_way) fun x_1103 => Rt.bind (.ok x_1102) fun x_1104 => .ok (x_1103, x_1104)) fun x_1106 => .ok (x_1105, x_1106)) fun x => t_done_by x.1 x.2.1 x.2.2) fun other_1107 => (Rt.bind (Rt.bind (Rt.bind (.ok other_1107) fun x_1108 => (Rt.bind (.ok s_1101.1) fun x_1109 => (.ok (negB true (lk x_1109 x_1108).isSome)))) fun k_1122 => cond k_1122 (Rt.bind (Rt.bind (Rt.bind (Rt.bind (.ok s_1101.1) fun x_1110 => (Rt.bind (.ok s_1098.1) fun x_1111 => dGetR x_1110 x_1111)) fun x_1112 => (Rt.bind (.ok (1 : Int)) fun x_1113 => (.ok (x_1112 + x_1113)))) fun x_1114 => Rt.bind (.ok other_1107) fun x_1115 => ptR s_1101.1 x_1115 x_1114) fun known_1116 => (Rt.bind (Rt.bind (.ok other_1107) fun x_1118 => apR s_1101.2 x_1118) fun line_1117 => (.ok (known_1116, line_1117)))) (Rt.bind (.ok ()) fun _ => (.ok (s_1101.1, s_1101.2)))) fun s_1119 => (.ok (s_1119.1, s_1119.2)))))) fun s_1120 => (.ok (s_1120.1, s_1120.2, s_1098.2))))) (s_1087.1, s_1087.2.1, s_1087.2.2)) fun s_1121 => (.ok s_1121.1))) := (tb_seq (tn_par (tp_cons (tp_O (tg_done (te_var (c := (cT cI)) rfl) te_int)) (tp_cons (tp_O (tg_lstL (th_cons (te_var (c := (cT cI)) rfl) (th_nil (c := (cT cI)))))) (tp_one (tp_V te_int)))) rfl) (fun s_1087 => (tb_seq (tn_while (s0 := (s_1087.1, s_1087.2.1, s_1087.2.2)) (Gs := (fun (s_1088 : ((List ((List Int) × Int)) × (List (List Int)) × Int)) => [(1, .val (cS.d p_way)), (2, .own ((oM (cT cI) cI) s_1088.1)), (3, .own ((oL (cT cI)) s_1088.2.1)), (4, .val (cI.d s_1088.2.2))])) (by exact ⟨rfl, rfl, rfl, rfl, trivial⟩) (fun s_1088 => (tt_test (te_op o_lt (te_var (c := cI) rfl) (tg_one (tg_len (ts_own (c := (cT cI)) rfl)))))) (fun s_1088 => (tn_seq (tn_par (tp_cons (tp_V (te_ix (ts_own (c := (cT cI)) rfl) (te_var (c := cI) rfl))) (tp_one (tp_V (te_op o_add (te_var (c := cI) rfl) te_int)))) rfl) (fun s_1098 => (tn_to (fun s_1120 => (s_1120.1, s_1120.2, s_1098.2)) (tn_for (s0 := (s_1088.1, s_1088.2.1)) (Gs := (fun (s_1101 : ((List ((List Int) × Int)) × (List (List Int)))) => [(1, .val (cS.d p_way)), (4, .val (cI.d s_1098.2)), (6, .val ((cT cI).d s_1098.1)), (2, .own ((oM (cT cI) cI) s_1101.1)), (3, .own ((oL (cT cI)) s_1101.2))])) (ti_L (te_call T_pairs_of (ta_cons (te_var (c := (cT cI)) rfl) (ta_one (te_var (c := cS) rfl))) rfl (fun _ => rfl))) (by exact ⟨rfl, rfl, rfl, rfl, rfl, trivial⟩) (fun s_1101 x_1102 => (gt_set rfl)) (fun s_1101 x_1102 => (tn_seq (tn_set (te_call T_done_by (ta_cons (te_var (c := (cT cI)) rfl) (ta_cons (te_var (c := cS) rfl) (ta_one (te_var (c := (cP (qc cI (q1 cI)))) rfl)))) rfl (fun _ => rfl)) rfl) (fun other_1107 => (tn_to (fun s_1119 => (s_1119.1, s_1119.2)) (tn_if (Gs := (fun (s_1119 : ((List ((List Int) × Int)) × (List (List Int)))) => [(1, .val (cS.d p_way)), (4, .val (cI.d s_1098.2)), (5, .val ((cP (qc cI (q1 cI))).d x_1102)), (6, .val ((cT cI).d s_1098.1)), (7, .val ((cT cI).d other_1107)), (2, .own ((oM (cT cI) cI) s_1119.1)), (3, .own ((oL (cT cI)) s_1119.2))])) (tt_test (te_din (te_var (c := (cT cI)) rfl) (td_own (ck := (cT cI)) (cv := cI) rfl))) (tn_seq (tn_dput rfl (te_op o_add (te_dget (td_own (ck := (cT cI)) (cv := cI) rfl) (te_var (c := (cT cI)) rfl)) te_int) rfl (te_var (c := (cT cI)) rfl) rfl) (fun known_1116 => (tn_to (fun line_1117 => (known_1116, line_1117)) (tn_append rfl rfl (te_var (c := (cT cI)) rfl) rfl) (fun line_1117 => (by exact ⟨rfl, rfl, rfl, rfl, rfl, rfl, rfl, trivial⟩))))) (tn_to (fun _ => (s_1101.1, s_1101.2)) tn_skip (fun _ => (by exact ⟨rfl, rfl, rfl, rfl, rfl, rfl, rfl, trivial⟩)))) (fun s_1119 => (by exact ⟨rfl, rfl, rfl, rfl, rfl, trivial⟩))))))) (fun s_1120 => (by exact ⟨rfl, rfl, rfl, rfl, trivial⟩))))))) (fun s_1121 => (tb_ret (te_frzM rfl rfl))))))
theorem T_far_from : TF m_far_from (qc (cT cI) (q1 cS)) (cM (cT cI) cI) (fun x => t_far_from x.1 x.2) := tf_b (fun a => B_far_from a.1 a.2) rfl rfl
def t_sums_by (p_rows : (List (List Int))) (p_way : Str) : Rt (List ((List Int) × Int)) := (Rt.bind (.ok ([] : (List ((List Int) × Int)))) fun found_1124 => (Rt.bind (forT p_rows found_1124 (fun (s_1125 : (List ((List Int) × Int))) (x_1126 : (List Int)) => (Rt.bind (Rt.bind (Rt.bind (t_far_from x_1126 p_way) fun x_1129 => (.ok x_1129)) fun xs_1142 => forT xs_1142 s_1125 (fun (s_1130 : (List ((List Int) × Int))) (x_1131 : ((List Int) × Int)) => (Rt.bind (ptR s_1130 x_1131.1 (((lk s_1130 x_1131.1).getD (0 : Int)) + x_1131.2)) fun found_1139 => (.ok found_1139)))) fun s_1140 => (.ok s_1140)))) fun s_1141 => (.ok s_1141)))
theorem B_sums_by (p_rows : (List (List Int))) (p_way : Str) : TB 6 [(0, .val ((cT (cT cI)).d p_rows)), (1, .val (cS.d p_way))] b_sums_by (cM (cT cI) cI) (Rt.bind (.ok ([] : (List ((List Int) × Int)))) fun found_1124 => (Rt.bind (Rt.bind (.ok p_rows) fun xs_1143 => forT xs_1143 found_1124 (fun (s_1125 : (List ((List Int) × Int))) (x_1126 : (List Int)) => (Rt.bind (Rt.bind (Rt.bind (Rt.bind (Rt.bind (.ok x_1126) fun x_1127 => Rt.bind (.ok p_way) fun x_1128 => .ok (x_1127, x_1128)) fun x => t_far_from x.1 x.2) fun x_1129 => (.ok x_1129)) fun xs_1142 => forT xs_1142 s_1125 (fun (s_1130 : (List ((List Int) × Int))) (x_1131 : ((List Int) × Int)) => (Rt.bind (Rt.bind (Rt.bind (Rt.bind (.ok s_1130) fun x_1132 => (Rt.bind (.ok x_1131.1) fun x_1133 => (Rt.bind (.ok (0 : Int)) fun x_1134 => (.ok ((lk x_1132 x_1133).getD x_1134))))) fun x_1135 => (Rt.bind (.ok x_1131.2) fun x_1136 => (.ok (x_1135 + x_1136)))) fun x_1137 => Rt.bind (.ok x_1131.1) fun x_1138 => ptR s_1130 x_1138 x_1137) fun found_1139 => (.ok found_1139)))) fun s_1140 => (.ok s_1140)))) fun s_1141 => (.ok s_1141))) := (tb_seq (tn_own (tg_dnew (ck := (cT cI)) (cv := cI)) rfl) (fun found_1124 => (tb_seq (tn_for (s0 := found_1124) (Gs := (fun (s_1125 : (List ((List Int) × Int))) => [(1, .val (cS.d p_way)), (2, .own ((oM (cT cI) cI) s_1125))])) (ti_T (te_var (c := (cT (cT cI))) rfl)) (by exact ⟨rfl, rfl, trivial⟩) (fun s_1125 x_1126 => (gt_set rfl)) (fun s_1125 x_1126 => (tn_to (fun s_1140 => s_1140) (tn_for (s0 := s_1125) (Gs := (fun (s_1130 : (List ((List Int) × Int))) => [(1, .val (cS.d p_way)), (3, .val ((cT cI).d x_1126)), (2, .own ((oM (cT cI) cI) s_1130))])) (tg_un u_items (te_call T_far_from (ta_cons (te_var (c := (cT cI)) rfl) (ta_one (te_var (c := cS) rfl))) rfl (fun _ => rfl))) (by exact ⟨rfl, rfl, rfl, trivial⟩) (fun s_1130 x_1131 => (gt_PK (gts_cons (gt_set rfl) (gts_cons (gt_set rfl) gts_nil)))) (fun s_1130 x_1131 => (tn_to (fun found_1139 => found_1139) (tn_dput rfl (te_op o_add (te_dget2 (td_own (ck := (cT cI)) (cv := cI) rfl) (te_var (c := (cT cI)) rfl) te_int) (te_var (c := cI) rfl)) rfl (te_var (c := (cT cI)) rfl) rfl) (fun found_1139 => (by exact ⟨rfl, rfl, rfl, trivial⟩))))) (fun s_1140 => (by exact ⟨rfl, rfl, trivial⟩))))) (fun s_1141 => (tb_ret (te_frzM rfl rfl))))))
theorem T_sums_by : TF m_sums_by (qc (cT (cT cI)) (q1 cS)) (cM (cT cI) cI) (fun x => t_sums_by x.1 x.2) := tf_b (fun a => B_sums_by a.1 a.2) rfl rfl
def t_medians_by (p_rows : (List (List Int))) (p_way : Str) : Rt (Int × (List (List Int))) := (Rt.bind (t_sums_by p_rows p_way) fun told_1146 => (Rt.bind (Rt.bind (Rt.bind (lcT told_1146 (fun (x_1148 : ((List Int) × Int)) => (.ok true)) (fun (x_1148 : ((List Int) × Int)) => (.ok x_1148.2))) lineR) fun x_1150 => minR x_1150) fun least_1151 => (Rt.bind (Rt.bind (Rt.bind (Rt.bind (lcT told_1146 (fun (x_1153 : ((List Int) × Int)) => (.ok (decide (x_1153.2 = least_1151)))) (fun (x_1153 : ((List Int) × Int)) => (.ok x_1153.1))) lineR) fun x_1157 => sortR (cT cI) x_1157) fun x_1158 => (.ok x_1158)) fun x_1160 => .ok (least_1151, x_1160))))
theorem B_medians_by (p_rows : (List (List Int))) (p_way : Str) : TB 6 [(0, .val ((cT (cT cI)).d p_rows)), (1, .val (cS.d p_way))] b_medians_by (cP (qc cI (q1 (cT (cT cI))))) (Rt.bind (Rt.bind (Rt.bind (.ok p_rows) fun x_1144 => Rt.bind (.ok p_way) fun x_1145 => .ok (x_1144, x_1145)) fun x => t_sums_by x.1 x.2) fun told_1146 => (Rt.bind (Rt.bind (Rt.bind (Rt.bind (.ok told_1146) fun x_1147 => (.ok x_1147)) fun xs_1149 => Rt.bind (lcT xs_1149 (fun (x_1148 : ((List Int) × Int)) => (.ok true)) (fun (x_1148 : ((List Int) × Int)) => (.ok x_1148.2))) lineR) fun x_1150 => minR x_1150) fun least_1151 => (Rt.bind (.ok least_1151) fun x_1159 => Rt.bind (Rt.bind (Rt.bind (Rt.bind (Rt.bind (.ok told_1146) fun x_1152 => (.ok x_1152)) fun xs_1156 => Rt.bind (lcT xs_1156 (fun (x_1153 : ((List Int) × Int)) => (Rt.bind (.ok x_1153.2) fun x_1154 => (Rt.bind (.ok least_1151) fun x_1155 => (.ok (decide (x_1154 = x_1155)))))) (fun (x_1153 : ((List Int) × Int)) => (.ok x_1153.1))) lineR) fun x_1157 => sortR (cT cI) x_1157) fun x_1158 => (.ok x_1158)) fun x_1160 => .ok (x_1159, x_1160)))) := (tb_seq (tn_set (te_call T_sums_by (ta_cons (te_var (c := (cT (cT cI))) rfl) (ta_one (te_var (c := cS) rfl))) rfl (fun _ => rfl)) rfl) (fun told_1146 => (tb_seq (tn_set (tg_one (tg_un u_min (te_valL (tg_lc (tg_un u_items (te_var (c := (cM (cT cI) cI)) rfl)) rfl (fun x_1148 => (gc_PK (gcs_cons (gc_set rfl rfl) (gcs_cons (gc_set rfl rfl) gcs_nil)))) (fun x_1148 => tt_yes) (fun x_1148 => (te_var (c := cI) rfl)))))) rfl) (fun least_1151 => (tb_ret (te_tupP (q := (qc cI (q1 (cT (cT cI))))) (ta_cons (te_var (c := cI) rfl) (ta_one (tg_one (tg_un u_tupL (te_valL (tg_one (tg_sort (ts_L (te_valL (tg_lc (tg_un u_items (te_var (c := (cM (cT cI) cI)) rfl)) rfl (fun x_1153 => (gc_PK (gcs_cons (gc_set rfl rfl) (gcs_cons (gc_set rfl rfl) gcs_nil)))) (fun x_1153 => (tt_test (te_op (o_eq (c := cI) rfl) (te_var (c := cI) rfl) (te_var (c := cI) rfl)))) (fun x_1153 => (te_var (c := (cT cI)) rfl)))))))))))) rfl))))))
theorem T_medians_by : TF m_medians_by (qc (cT (cT cI)) (q1 cS)) (cP (qc cI (q1 (cT (cT cI))))) (fun x => t_medians_by x.1 x.2) := tf_b (fun a => B_medians_by a.1 a.2) rfl rfl
def t_medians (p_kinds : Int) (p_rows : (List (List Int))) (p_way : Str) : Rt (Int × (List (List Int))) := (Rt.bind (Rt.bind (t_check_rows p_kinds p_rows p_way) fun _ => .ok ()) fun u_1166 => (t_medians_by p_rows p_way))
theorem B_medians (p_kinds : Int) (p_rows : (List (List Int))) (p_way : Str) : TB 3 [(0, .val (cI.d p_kinds)), (1, .val ((cT (cT cI)).d p_rows)), (2, .val (cS.d p_way))] b_medians (cP (qc cI (q1 (cT (cT cI))))) (Rt.bind (Rt.bind (Rt.bind (Rt.bind (.ok p_kinds) fun x_1163 => Rt.bind (Rt.bind (.ok p_rows) fun x_1161 => Rt.bind (.ok p_way) fun x_1162 => .ok (x_1161, x_1162)) fun x_1164 => .ok (x_1163, x_1164)) fun x => t_check_rows x.1 x.2.1 x.2.2) fun _ => .ok ()) fun u_1166 => (Rt.bind (Rt.bind (.ok p_rows) fun x_1167 => Rt.bind (.ok p_way) fun x_1168 => .ok (x_1167, x_1168)) fun x => t_medians_by x.1 x.2)) := (tb_seq (tn_do (te_call T_check_rows (ta_cons (te_var (c := cI) rfl) (ta_cons (te_var (c := (cT (cT cI))) rfl) (ta_one (te_var (c := cS) rfl)))) rfl (fun _ => rfl))) (fun u_1166 => (tb_ret (te_call T_medians_by (ta_cons (te_var (c := (cT (cT cI))) rfl) (ta_one (te_var (c := cS) rfl))) rfl (fun _ => rfl)))))
theorem T_medians : TF m_medians (qc cI (qc (cT (cT cI)) (q1 cS))) (cP (qc cI (q1 (cT (cT cI))))) (fun x => t_medians x.1 x.2.1 x.2.2) := tf_b (fun a => B_medians a.1 a.2.1 a.2.2) rfl rfl
def t__law_pair_far (p_rows : (List (List Int))) (p_way : Str) : Rt (List (Int × (Int × Int))) := (Rt.bind (lineR ([] : List (Int × (Int × Int)))) fun found_1198 => (Rt.bind (Rt.bind (rngR1 (p_rows.length : Int)) fun xs_1226 => forT xs_1226 found_1198 (fun (s_1201 : (List (Int × (Int × Int)))) (x_1202 : Int) => (Rt.bind (Rt.bind (Rt.bind (ixR p_rows x_1202) fun x_1205 => .ok (x_1205, p_way)) fun x => t__law_off x.1 x.2) fun off_1207 => (Rt.bind (Rt.bind (Rt.bind (rngR1 (p_rows.length : Int)) fun xs_1221 => Rt.bind (lcT xs_1221 (fun (x_1210 : Int) => (.ok (!decide (x_1210 = x_1202)))) (fun (x_1210 : Int) => (Rt.bind (Rt.bind (ixR p_rows x_1210) fun x_1216 => dGetR off_1207 x_1216) fun x_1219 => .ok (x_1219, (x_1202, x_1210))))) lineR) fun x_1223 => catR s_1201 x_1223) fun found_1224 => (.ok found_1224))))) fun s_1225 => (.ok s_1225)))
theorem B__law_pair_far (p_rows : (List (List Int))) (p_way : Str) : TB 6 [(0, .val ((cT (cT cI)).d p_rows)), (1, .val (cS.d p_way))] b__law_pair_far (cL (cP (qc cI (q1 (cP (qc cI (q1 cI))))))) (Rt.bind (Rt.bind (.ok ([] : List (Int × (Int × Int)))) lineR) fun found_1198 => (Rt.bind (Rt.bind (Rt.bind (Rt.bind (.ok p_rows) fun x_1199 => (.ok (x_1199.length : Int))) fun x_1200 => rngR1 x_1200) fun xs_1226 => forT xs_1226 found_1198 (fun (s_1201 : (List (Int × (Int × Int)))) (x_1202 : Int) => (Rt.bind (Rt.bind (Rt.bind (Rt.bind (.ok p_rows) fun x_1203 => (Rt.bind (.ok x_1202) fun x_1204 => ixR x_1203 x_1204)) fun x_1205 => Rt.bind (.ok p_way) fun x_1206 => .ok (x_1205, x_1206)) fun x => t__law_off x.1 x.2) fun off_1207 => (Rt.bind (Rt.bind (.ok s_1201) fun x_1222 => (Rt.bind (Rt.bind (Rt.bind (Rt.bind (.ok p_rows) fun x_1208 => (.ok (x_1208.length : Int))) fun x_1209 => rngR1 x_1209) fun xs_1221 => Rt.bind (lcT xs_1221 (fun (x_1210 : Int) => (Rt.bind (.ok x_1210) fun x_1211 => (Rt.bind (.ok x_1202) fun x_1212 => (.ok (!decide (x_1211 = x_1212)))))) (fun (x_1210 : Int) => (Rt.bind (Rt.bind (.ok off_1207) fun x_1215 => (Rt.bind (Rt.bind (.ok p_rows) fun x_1213 => (Rt.bind (.ok x_1210) fun x_1214 => ixR x_1213 x_1214)) fun x_1216 => dGetR x_1215 x_1216)) fun x_1219 => Rt.bind (Rt.bind (.ok x_1202) fun x_1217 => Rt.bind (.ok x_1210) fun x_1218 => .ok (x_1217, x_1218)) fun x_1220 => .ok (x_1219, x_1220)))) lineR) fun x_1223 => catR x_1222 x_1223)) fun found_1224 => (.ok found_1224))))) fun s_1225 => (.ok s_1225))) := (tb_seq (tn_set (te_valL (tg_lstL (th_nil (c := (cP (qc cI (q1 (cP (qc cI (q1 cI)))))))))) rfl) (fun found_1198 => (tb_seq (tn_for (s0 := found_1198) (Gs := (fun (s_1201 : (List (Int × (Int × Int)))) => [(0, .val ((cT (cT cI)).d p_rows)), (1, .val (cS.d p_way)), (2, .val ((cL (cP (qc cI (q1 (cP (qc cI (q1 cI))))))).d s_1201))])) (tg_one (tg_un u_rng1 (tg_one (tg_len (ts_T (te_var (c := (cT (cT cI))) rfl)))))) (by exact ⟨rfl, rfl, rfl, trivial⟩) (fun s_1201 x_1202 => (gt_set rfl)) (fun s_1201 x_1202 => (tn_seq (tn_set (te_call T__law_off (ta_cons (te_ix (ts_T (te_var (c := (cT (cT cI))) rfl)) (te_var (c := cI) rfl)) (ta_one (te_var (c := cS) rfl))) rfl (fun _ => rfl)) rfl) (fun off_1207 => (tn_to (fun found_1224 => found_1224) (tn_set (te_op o_addL (te_var (c := (cL (cP (qc cI (q1 (cP (qc cI (q1 cI)))))))) rfl) (te_valL (tg_lc (tg_one (tg_un u_rng1 (tg_one (tg_len (ts_T (te_var (c := (cT (cT cI))) rfl)))))) rfl (fun x_1210 => (gc_set rfl rfl)) (fun x_1210 => (tt_test (te_op (o_ne (c := cI) rfl) (te_var (c := cI) rfl) (te_var (c := cI) rfl)))) (fun x_1210 => (te_tupP (q := (qc cI (q1 (cP (qc cI (q1 cI)))))) (ta_cons (te_dget (td_M (te_var (c := (cM (cT cI) cI)) rfl)) (te_ix (ts_T (te_var (c := (cT (cT cI))) rfl)) (te_var (c := cI) rfl))) (ta_one (te_tupP (q := (qc cI (q1 cI))) (ta_cons (te_var (c := cI) rfl) (ta_one (te_var (c := cI) rfl))) rfl))) rfl))))) rfl) (fun found_1224 => (by exact ⟨rfl, rfl, rfl, trivial⟩))))))) (fun s_1225 => (tb_ret (te_var (c := (cL (cP (qc cI (q1 (cP (qc cI (q1 cI)))))))) rfl))))))
theorem T__law_pair_far : TF m__law_pair_far (qc (cT (cT cI)) (q1 cS)) (cL (cP (qc cI (q1 (cP (qc cI (q1 cI))))))) (fun x => t__law_pair_far x.1 x.2) := tf_b (fun a => B__law_pair_far a.1 a.2) rfl rfl
def t__law_lowest (p_top : Int) (p_low : Int) : Rt (Int × Int) := (Rt.bind (.ok (p_top, p_low)) fun s_1248 => (Rt.bind (whileT 1000 (fun (s_1249 : (Int × Int)) => (.ok (decide ((0 : Int) < s_1249.2)))) (fun (s_1249 : (Int × Int)) => (Rt.bind (Rt.bind (modR s_1249.1 s_1249.2) fun x_1256 => .ok (s_1249.2, x_1256)) fun s_1257 => (.ok (s_1257.1, s_1257.2)))) (s_1248.1, s_1248.2)) fun s_1258 => (Rt.bind (divR p_top s_1258.1) fun x_1263 => Rt.bind (divR p_low s_1258.1) fun x_1264 => .ok (x_1263, x_1264))))
theorem B__law_lowest (p_top : Int) (p_low : Int) : TB 4 [(0, .val (cI.d p_top)), (1, .val (cI.d p_low))] b__law_lowest (cP (qc cI (q1 cI))) (Rt.bind (Rt.bind (.ok p_top) fun x_1246 => Rt.bind (.ok p_low) fun x_1247 => .ok (x_1246, x_1247)) fun s_1248 => (Rt.bind (whileT 1000 (fun (s_1249 : (Int × Int)) => (Rt.bind (.ok s_1249.2) fun x_1250 => (Rt.bind (.ok (0 : Int)) fun x_1251 => (.ok (decide (x_1251 < x_1250)))))) (fun (s_1249 : (Int × Int)) => (Rt.bind (Rt.bind (.ok s_1249.2) fun x_1255 => Rt.bind (Rt.bind (Rt.bind (.ok s_1249.1) fun x_1252 => (.ok x_1252)) fun x_1253 => (Rt.bind (.ok s_1249.2) fun x_1254 => modR x_1253 x_1254)) fun x_1256 => .ok (x_1255, x_1256)) fun s_1257 => (.ok (s_1257.1, s_1257.2)))) (s_1248.1, s_1248.2)) fun s_1258 => (Rt.bind (Rt.bind (.ok p_top) fun x_1259 => (Rt.bind (.ok s_1258.1) fun x_1260 => divR x_1259 x_1260)) fun x_1263 => Rt.bind (Rt.bind (.ok p_low) fun x_1261 => (Rt.bind (.ok s_1258.1) fun x_1262 => divR x_1261 x_1262)) fun x_1264 => .ok (x_1263, x_1264)))) := (tb_seq (tn_par (tp_cons (tp_V (te_var (c := cI) rfl)) (tp_one (tp_V (te_var (c := cI) rfl)))) rfl) (fun s_1248 => (tb_seq (tn_while (s0 := (s_1248.1, s_1248.2)) (Gs := (fun (s_1249 : (Int × Int)) => [(0, .val (cI.d p_top)), (1, .val (cI.d p_low)), (2, .val (cI.d s_1249.1)), (3, .val (cI.d s_1249.2))])) (by exact ⟨rfl, rfl, rfl, rfl, trivial⟩) (fun s_1249 => (tt_test (te_op o_gt (te_var (c := cI) rfl) te_int))) (fun s_1249 => (tn_to (fun s_1257 => (s_1257.1, s_1257.2)) (tn_par (tp_cons (tp_V (te_var (c := cI) rfl)) (tp_one (tp_V (te_op o_mod (tg_one (tg_un u_int (te_var (c := cI) rfl))) (te_var (c := cI) rfl))))) rfl) (fun s_1257 => (by exact ⟨rfl, rfl, rfl, rfl, trivial⟩))))) (fun s_1258 => (tb_ret (te_tupP (q := (qc cI (q1 cI))) (ta_cons (te_op o_div (te_var (c := cI) rfl) (te_var (c := cI) rfl)) (ta_one (te_op o_div (te_var (c := cI) rfl) (te_var (c := cI) rfl)))) rfl))))))
theorem T__law_lowest : TF m__law_lowest (qc cI (q1 cI)) (cP (qc cI (q1 cI))) (fun x => t__law_lowest x.1 x.2) := tf_b (fun a => B__law_lowest a.1 a.2) rfl rfl
def t_lowest (p_over : Int) (p_under : Int) : Rt (Int × Int) := (Rt.bind (cond (decide ((0 : Int) < p_under)) (.ok ((Nat.gcd p_over.natAbs p_under.natAbs : Nat) : Int)) (.bad : Rt Int)) fun common_1304 => (Rt.bind (divR p_over common_1304) fun x_1309 => Rt.bind (divR p_under common_1304) fun x_1310 => .ok (x_1309, x_1310)))
theorem B_lowest (p_over : Int) (p_under : Int) : TB 3 [(0, .val (cI.d p_over)), (1, .val (cI.d p_under))] b_lowest (cP (qc cI (q1 cI))) (Rt.bind (Rt.bind (Rt.bind (.ok p_under) fun x_1299 => (Rt.bind (.ok (0 : Int)) fun x_1300 => (.ok (decide (x_1300 < x_1299))))) fun k_1303 => cond k_1303 (Rt.bind (.ok p_over) fun x_1301 => (Rt.bind (.ok p_under) fun x_1302 => (.ok ((Nat.gcd x_1301.natAbs x_1302.natAbs : Nat) : Int)))) (.bad : Rt Int)) fun common_1304 => (Rt.bind (Rt.bind (.ok p_over) fun x_1305 => (Rt.bind (.ok common_1304) fun x_1306 => divR x_1305 x_1306)) fun x_1309 => Rt.bind (Rt.bind (.ok p_under) fun x_1307 => (Rt.bind (.ok common_1304) fun x_1308 => divR x_1307 x_1308)) fun x_1310 => .ok (x_1309, x_1310))) := (tb_seq (tn_set (tg_if (tt_test (te_op o_gt (te_var (c := cI) rfl) te_int)) (tg_two (te_op o_gcd (te_var (c := cI) rfl) (te_var (c := cI) rfl))) (te_bad (f := cI.d))) rfl) (fun common_1304 => (tb_ret (te_tupP (q := (qc cI (q1 cI))) (ta_cons (te_op o_div (te_var (c := cI) rfl) (te_var (c := cI) rfl)) (ta_one (te_op o_div (te_var (c := cI) rfl) (te_var (c := cI) rfl)))) rfl))))
theorem T_lowest : TF m_lowest (qc cI (q1 cI)) (cP (qc cI (q1 cI))) (fun x => t_lowest x.1 x.2) := tf_b (fun a => B_lowest a.1 a.2) rfl rfl
def t_mean_by (p_rows : (List (List Int))) (p_way : Str) : Rt (Option (Int × Int)) := (Rt.bind (Rt.bind (lcT2 (enumT 0 p_rows) (fun (x_1312 : (Int × (List Int))) => (.ok true)) (fun (x_1312 : (Int × (List Int))) => (.ok (enumT 0 p_rows))) (fun (x_1312 : (Int × (List Int))) (y_1314 : (Int × (List Int))) => (.ok (!decide (x_1312.1 = y_1314.1)))) (fun (x_1312 : (Int × (List Int))) (y_1314 : (Int × (List Int))) => (Rt.bind (t_far_from x_1312.2 p_way) fun x_1319 => dGetR x_1319 y_1314.2))) lineR) fun told_1322 => (Rt.bind (Rt.bind (lineR ([] : List Int)) fun x_1324 => (.ok (!decide (told_1322 = x_1324)))) fun k_1331 => cond k_1331 (Rt.bind (t_lowest told_1322.sum (told_1322.length : Int)) fun x_1329 => (.ok (some x_1329))) (.ok (none : Option (Int × Int)))))
theorem B_mean_by (p_rows : (List (List Int))) (p_way : Str) : TB 7 [(0, .val ((cT (cT cI)).d p_rows)), (1, .val (cS.d p_way))] b_mean_by (cO (cP (qc cI (q1 cI)))) (Rt.bind (Rt.bind (Rt.bind (.ok p_rows) fun x_1311 => (.ok (enumT 0 x_1311))) fun xs_1321 => (Rt.bind (lcT2 xs_1321 (fun (x_1312 : (Int × (List Int))) => (.ok true)) (fun (x_1312 : (Int × (List Int))) => (Rt.bind (.ok p_rows) fun x_1313 => (.ok (enumT 0 x_1313)))) (fun (x_1312 : (Int × (List Int))) (y_1314 : (Int × (List Int))) => (Rt.bind (.ok x_1312.1) fun x_1315 => (Rt.bind (.ok y_1314.1) fun x_1316 => (.ok (!decide (x_1315 = x_1316)))))) (fun (x_1312 : (Int × (List Int))) (y_1314 : (Int × (List Int))) => (Rt.bind (Rt.bind (Rt.bind (.ok x_1312.2) fun x_1317 => Rt.bind (.ok p_way) fun x_1318 => .ok (x_1317, x_1318)) fun x => t_far_from x.1 x.2) fun x_1319 => (Rt.bind (.ok y_1314.2) fun x_1320 => dGetR x_1319 x_1320)))) lineR)) fun told_1322 => (Rt.bind (Rt.bind (.ok told_1322) fun x_1323 => (Rt.bind (Rt.bind (.ok ([] : List Int)) lineR) fun x_1324 => (.ok (!decide (x_1323 = x_1324))))) fun k_1331 => cond k_1331 (Rt.bind (Rt.bind (Rt.bind (Rt.bind (.ok told_1322) fun x_1325 => (.ok x_1325.sum)) fun x_1327 => Rt.bind (Rt.bind (.ok told_1322) fun x_1326 => (.ok (x_1326.length : Int))) fun x_1328 => .ok (x_1327, x_1328)) fun x => t_lowest x.1 x.2) fun x_1329 => (.ok (some x_1329))) (Rt.bind (.ok ()) fun x_1330 => (.ok (none : Option (Int × Int)))))) := (tb_seq (tn_set (te_valL (tg_lc2 (tg_one (tg_un u_enumT (te_var (c := (cT (cT cI))) rfl))) rfl (fun x_1312 => (gc_PK (gcs_cons (gc_set rfl rfl) (gcs_cons (gc_set rfl rfl) gcs_nil)))) (fun x_1312 => tt_yes) (fun x_1312 => (tg_one (tg_un u_enumT (te_var (c := (cT (cT cI))) rfl)))) (fun x_1312 y_1314 => (gc_PK (gcs_cons (gc_set rfl rfl) (gcs_cons (gc_set rfl rfl) gcs_nil)))) (fun x_1312 y_1314 => (tt_test (te_op (o_ne (c := cI) rfl) (te_var (c := cI) rfl) (te_var (c := cI) rfl)))) (fun x_1312 y_1314 => (te_dget (td_M (te_call T_far_from (ta_cons (te_var (c := (cT cI)) rfl) (ta_one (te_var (c := cS) rfl))) rfl (fun _ => rfl))) (te_var (c := (cT cI)) rfl))) rfl)) rfl) (fun told_1322 => (tb_ret (tg_if (tt_test (te_op (o_ne (c := (cL cI)) rfl) (te_var (c := (cL cI)) rfl) (te_valL (tg_lstL (th_nil (c := cI)))))) (te_some (te_call T_lowest (ta_cons (tg_one (tg_un u_sum (te_var (c := (cL cI)) rfl))) (ta_one (tg_one (tg_len (ts_L (te_var (c := (cL cI)) rfl)))))) rfl (fun _ => rfl))) (te_none te_non)))))
theorem T_mean_by : TF m_mean_by (qc (cT (cT cI)) (q1 cS)) (cO (cP (qc cI (q1 cI)))) (fun x => t_mean_by x.1 x.2) := tf_b (fun a => B_mean_by a.1 a.2) rfl rfl
def t_mean_far (p_kinds : Int) (p_rows : (List (List Int))) (p_way : Str) : Rt (Option (Int × Int)) := (Rt.bind (Rt.bind (t_check_rows p_kinds p_rows p_way) fun _ => .ok ()) fun u_1337 => (t_mean_by p_rows p_way))
theorem B_mean_far (p_kinds : Int) (p_rows : (List (List Int))) (p_way : Str) : TB 3 [(0, .val (cI.d p_kinds)), (1, .val ((cT (cT cI)).d p_rows)), (2, .val (cS.d p_way))] b_mean_far (cO (cP (qc cI (q1 cI)))) (Rt.bind (Rt.bind (Rt.bind (Rt.bind (.ok p_kinds) fun x_1334 => Rt.bind (Rt.bind (.ok p_rows) fun x_1332 => Rt.bind (.ok p_way) fun x_1333 => .ok (x_1332, x_1333)) fun x_1335 => .ok (x_1334, x_1335)) fun x => t_check_rows x.1 x.2.1 x.2.2) fun _ => .ok ()) fun u_1337 => (Rt.bind (Rt.bind (.ok p_rows) fun x_1338 => Rt.bind (.ok p_way) fun x_1339 => .ok (x_1338, x_1339)) fun x => t_mean_by x.1 x.2)) := (tb_seq (tn_do (te_call T_check_rows (ta_cons (te_var (c := cI) rfl) (ta_cons (te_var (c := (cT (cT cI))) rfl) (ta_one (te_var (c := cS) rfl)))) rfl (fun _ => rfl))) (fun u_1337 => (tb_ret (te_call T_mean_by (ta_cons (te_var (c := (cT (cT cI))) rfl) (ta_one (te_var (c := cS) rfl))) rfl (fun _ => rfl)))))
theorem T_mean_far : TF m_mean_far (qc cI (qc (cT (cT cI)) (q1 cS))) (cO (cP (qc cI (q1 cI)))) (fun x => t_mean_far x.1 x.2.1 x.2.2) := tf_b (fun a => B_mean_far a.1 a.2.1 a.2.2) rfl rfl
def t_widest_by (p_rows : (List (List Int))) (p_way : Str) : Rt (Int × (Option (Int × Int))) := (Rt.bind (.ok ((0 : Int), (none : Option (Int × Int)))) fun best_1384 => (Rt.bind (forT (enumT 0 p_rows) best_1384 (fun (s_1386 : (Int × (Option (Int × Int)))) (x_1387 : (Int × (List Int))) => (Rt.bind (t_far_from x_1387.2 p_way) fun known_1390 => (Rt.bind (forT (enumT 0 p_rows) s_1386 (fun (s_1392 : (Int × (Option (Int × Int)))) (x_1393 : (Int × (List Int))) => (Rt.bind (Rt.bind (cond (!decide (x_1387.1 = x_1393.1)) (Rt.bind (dGetR known_1390 x_1393.2) fun x_1399 => (.ok (decide (s_1392.1 < x_1399)))) (.ok false)) fun k_1413 => cond k_1413 (Rt.bind (Rt.bind (dGetR known_1390 x_1393.2) fun x_1407 => .ok (x_1407, some (x_1387.1, x_1393.1))) fun best_1409 => (.ok best_1409)) (.ok s_1392)) fun s_1410 => (.ok s_1410)))) fun s_1411 => (.ok s_1411))))) fun s_1412 => (.ok s_1412)))
theorem B_widest_by (p_rows : (List (List Int))) (p_way : Str) : TB 8 [(0, .val ((cT (cT cI)).d p_rows)), (1, .val (cS.d p_way))] b_widest_by (cP (qc cI (q1 (cO (cP (qc cI (q1 cI))))))) (Rt.bind (Rt.bind (.ok (0 : Int)) fun x_1382 => Rt.bind (Rt.bind (.ok ()) fun x_1381 => (.ok (none : Option (Int × Int)))) fun x_1383 => .ok (x_1382, x_1383)) fun best_1384 => (Rt.bind (Rt.bind (Rt.bind (.ok p_rows) fun x_1385 => (.ok (enumT 0 x_1385))) fun xs_1415 => forT xs_1415 best_1384 (fun (s_1386 : (Int × (Option (Int × Int)))) (x_1387 : (Int × (List Int))) => (Rt.bind (Rt.bind (Rt.bind (.ok x_1387.2) fun x_1388 => Rt.bind (.ok p_way) fun x_1389 => .ok (x_1388, x_1389)) fun x => t_far_from x.1 x.2) fun known_1390 => (Rt.bind (Rt.bind (Rt.bind (.ok p_rows) fun x_1391 => (.ok (enumT 0 x_1391))) fun xs_1414 => forT xs_1414 s_1386 (fun (s_1392 : (Int × (Option (Int × Int)))) (x_1393 : (Int × (List Int))) => (Rt.bind (Rt.bind (Rt.bind (Rt.bind (.ok x_1387.1) fun x_1394 => (Rt.bind (.ok x_1393.1) fun x_1395 => (.ok (!decide (x_1394 = x_1395))))) fun k_1401 => cond k_1401 (Rt.bind (Rt.bind (.ok known_1390) fun x_1396 => (Rt.bind (.ok x_1393.2) fun x_1397 => dGetR x_1396 x_1397)) fun x_1399 => (Rt.bind (Rt.bind (.ok s_1392) fun x_1398 => (.ok x_1398.1)) fun x_1400 => (.ok (decide (x_1400 < x_1399))))) (.ok false)) fun k_1413 => cond k_1413 (Rt.bind (Rt.bind (Rt.bind (.ok known_1390) fun x_1402 => (Rt.bind (.ok x_1393.2) fun x_1403 => dGetR x_1402 x_1403)) fun x_1407 => Rt.bind (Rt.bind (Rt.bind (.ok x_1387.1) fun x_1404 => Rt.bind (.ok x_1393.1) fun x_1405 => .ok (x_1404, x_1405)) fun x_1406 => (.ok (some x_1406))) fun x_1408 => .ok (x_1407, x_1408)) fun best_1409 => (.ok best_1409)) (Rt.bind (.ok ()) fun _ => (.ok s_1392))) fun s_1410 => (.ok s_1410)))) fun s_1411 => (.ok s_1411))))) fun s_1412 => (.ok s_1412))) := (tb_seq (tn_set (te_tupP (q := (qc cI (q1 (cO (cP (qc cI (q1 cI))))))) (ta_cons te_int (ta_one (te_none te_non))) rfl) rfl) (fun best_1384 => (tb_seq (tn_for (s0 := best_1384) (Gs := (fun (s_1386 : (Int × (Option (Int × Int)))) => [(0, .val ((cT (cT cI)).d p_rows)), (1, .val (cS.d p_way)), (2, .val ((cP (qc cI (q1 (cO (cP (qc cI (q1 cI))))))).d s_1386))])) (tg_one (tg_un u_enumT (te_var (c := (cT (cT cI))) rfl))) (by exact ⟨rfl, rfl, rfl, trivial⟩) (fun s_1386 x_1387 => (gt_PK (gts_cons (gt_set rfl) (gts_cons (gt_set rfl) gts_nil)))) (fun s_1386 x_1387 => (tn_seq (tn_set (te_call T_far_from (ta_cons (te_var (c := (cT cI)) rfl) (ta_one (te_var (c := cS) rfl))) rfl (fun _ => rfl)) rfl) (fun known_1390 => (tn_to (fun s_1411 => s_1411) (tn_for (s0 := s_1386) (Gs := (fun (s_1392 : (Int × (Option (Int × Int)))) => [(0, .val ((cT (cT cI)).d p_rows)), (1, .val (cS.d p_way)), (3, .val (cI.d x_1387.1)), (4, .val ((cT cI).d x_1387.2)), (5, .val ((cM (cT cI) cI).d known_1390)), (2, .val ((cP (qc cI (q1 (cO (cP (qc cI (q1 cI))))))).d s_1392))])) (tg_one (tg_un u_enumT (te_var (c := (cT (cT cI))) rfl))) (by exact ⟨rfl, rfl, rfl, rfl, rfl, rfl, trivial⟩) (fun s_1392 x_1393 => (gt_PK (gts_cons (gt_set rfl) (gts_cons (gt_set rfl) gts_nil)))) (fun s_1392 x_1393 => (tn_to (fun s_1410 => s_1410) (tn_if (Gs := (fun (s_1410 : (Int × (Option (Int × Int)))) => [(0, .val ((cT (cT cI)).d p_rows)), (1, .val (cS.d p_way)), (3, .val (cI.d x_1387.1)), (4, .val ((cT cI).d x_1387.2)), (5, .val ((cM (cT cI) cI).d known_1390)), (6, .val (cI.d x_1393.1)), (7, .val ((cT cI).d x_1393.2)), (2, .val ((cP (qc cI (q1 (cO (cP (qc cI (q1 cI))))))).d s_1410))])) (tt_and (tt_test (te_op (o_ne (c := cI) rfl) (te_var (c := cI) rfl) (te_var (c := cI) rfl))) (tt_test (te_op o_gt (te_dget (td_M (te_var (c := (cM (cT cI) cI)) rfl)) (te_var (c := (cT cI)) rfl)) (te_ixP (c' := cI) (fun a => a.1) (te_var (c := (cP (qc cI (q1 (cO (cP (qc cI (q1 cI)))))))) rfl) (fun _ => rfl))))) (tn_to (fun best_1409 => best_1409) (tn_set (te_tupP (q := (qc cI (q1 (cO (cP (qc cI (q1 cI))))))) (ta_cons (te_dget (td_M (te_var (c := (cM (cT cI) cI)) rfl)) (te_var (c := (cT cI)) rfl)) (ta_one (te_some (te_tupP (q := (qc cI (q1 cI))) (ta_cons (te_var (c := cI) rfl) (ta_one (te_var (c := cI) rfl))) rfl)))) rfl) rfl) (fun best_1409 => (by exact ⟨rfl, rfl, rfl, rfl, rfl, rfl, rfl, rfl, trivial⟩))) (tn_to (fun _ => s_1392) tn_skip (fun _ => (by exact ⟨rfl, rfl, rfl, rfl, rfl, rfl, rfl, rfl, trivial⟩)))) (fun s_1410 => (by exact ⟨rfl, rfl, rfl, rfl, rfl, rfl, trivial⟩))))) (fun s_1411 => (by exact ⟨rfl, rfl, rfl, trivial⟩))))))) (fun s_1412 => (tb_ret (te_var (c := (cP (qc cI (q1 (cO (cP (qc cI (q1 cI)))))))) rfl))))))
theorem T_widest_by : TF m_widest_by (qc (cT (cT cI)) (q1 cS)) (cP (qc cI (q1 (cO (cP (qc cI (q1 cI))))))) (fun x => t_widest_by x.1 x.2) := tf_b (fun a => B_widest_by a.1 a.2) rfl rfl
def t_widest_pair (p_kinds : Int) (p_rows : (List (List Int))) (p_way : Str) : Rt (Int × (Option (Int × Int))) := (Rt.bind (Rt.bind (t_check_rows p_kinds p_rows p_way) fun _ => .ok ()) fun u_1421 => (t_widest_by p_rows p_way))
theorem B_widest_pair (p_kinds : Int) (p_rows : (List (List Int))) (p_way : Str) : TB 3 [(0, .val (cI.d p_kinds)), (1, .val ((cT (cT cI)).d p_rows)), (2, .val (cS.d p_way))] b_widest_pair (cP (qc cI (q1 (cO (cP (qc cI (q1 cI))))))) (Rt.bind (Rt.bind (Rt.bind (Rt.bind (.ok p_kinds) fun x_1418 => Rt.bind (Rt.bind (.ok p_rows) fun x_1416 => Rt.bind (.ok p_way) fun x_1417 => .ok (x_1416, x_1417)) fun x_1419 => .ok (x_1418, x_1419)) fun x => t_check_rows x.1 x.2.1 x.2.2) fun _ => .ok ()) fun u_1421 => (Rt.bind (Rt.bind (.ok p_rows) fun x_1422 => Rt.bind (.ok p_way) fun x_1423 => .ok (x_1422, x_1423)) fun x => t_widest_by x.1 x.2)) := (tb_seq (tn_do (te_call T_check_rows (ta_cons (te_var (c := cI) rfl) (ta_cons (te_var (c := (cT (cT cI))) rfl) (ta_one (te_var (c := cS) rfl)))) rfl (fun _ => rfl))) (fun u_1421 => (tb_ret (te_call T_widest_by (ta_cons (te_var (c := (cT (cT cI))) rfl) (ta_one (te_var (c := cS) rfl))) rfl (fun _ => rfl)))))
theorem T_widest_pair : TF m_widest_pair (qc cI (qc (cT (cT cI)) (q1 cS))) (cP (qc cI (q1 (cO (cP (qc cI (q1 cI))))))) (fun x => t_widest_pair x.1 x.2.1 x.2.2) := tf_b (fun a => B_widest_pair a.1 a.2.1 a.2.2) rfl rfl
def t__law_right (p_bag : Unit) : W Unit Bool := (W.bind (t__law_row p_bag (4 : Int)) fun z_1426 => (W.bind (W.bind (t__law_way p_bag) fun x_1429 => W.bind (W.of (lineR (z_1426.2 :: ([] : List (List Int))))) fun x_1430 => W.ok (x_1429, x_1430)) fun s_1431 => (W.bind (W.bind (W.bind (t__law_take p_bag (6 : Int)) fun x_1434 => (W.of (rngR1 x_1434))) fun xs_1563 => forW xs_1563 s_1431.2 (fun (s_1435 : (List (List Int))) (x_1436 : Int) => (W.bind (W.bind (W.bind (W.bind (W.bind (W.bind (t__law_take p_bag (4 : Int)) fun x_1439 => (W.ok (decide ((0 : Int) < x_1439)))) fun k_1443 => W.cond k_1443 (t__law_mixed p_bag z_1426.2) (W.of (.ok z_1426.2))) fun x_1444 => W.ok (x_1444 :: ([] : List (List Int)))) fun xs => W.of (lineR xs)) fun x_1447 => (W.of (catR s_1435 x_1447))) fun rows_1448 => (W.ok rows_1448)))) fun s_1449 => (W.bind (W.of (t__law_medians s_1449 s_1431.1)) fun due_1452 => (W.bind (W.of (Rt.bind (Rt.bind (Rt.bind (Rt.bind (t_medians z_1426.1 s_1449 s_1431.1) fun x_1464 => Rt.bind (Rt.bind (t_medians z_1426.1 s_1449 s_1431.1) fun x_1462 => .ok (x_1462 :: ([] : List (Int × (List (List Int)))))) fun x_1465 => .ok (x_1464 :: x_1465)) lineR) fun x_1466 => reprR (CEq.p (cL (cP (qc cI (q1 (cT (cT cI)))))) x_1466)) fun x_1472 => (Rt.bind (Rt.bind (lineR (due_1452 :: (due_1452 :: ([] : List (Int × (List (List Int))))))) fun x_1471 => reprR (CEq.p (cL (cP (qc cI (q1 (cT (cT cI)))))) x_1471)) fun x_1473 => (.ok (!decide (x_1472 = x_1473)))))) fun k_1566 => W.cond k_1566 (W.ok false) (W.bind (W.of (t__law_pair_far s_1449 s_1431.1)) fun pairs_1476 => (W.bind (W.of (Rt.bind (Rt.bind (lcT pairs_1476 (fun (x_1477 : (Int × (Int × Int))) => (.ok true)) (fun (x_1477 : (Int × (Int × Int))) => (.ok x_1477.1))) lineR) fun x_1479 => (.ok x_1479.sum))) fun whole_1480 => (W.bind (W.ok (none : Option (Int × Int))) fun part_1482 => (W.bind (W.of (Rt.bind (Rt.bind (lineR ([] : List (Int × (Int × Int)))) fun x_1484 => (.ok (!decide (pairs_1476 = x_1484)))) fun k_1564 => cond k_1564 (Rt.bind (cond (decide ((0 : Int) < whole_1480)) (Rt.bind (t__law_lowest whole_1480 (pairs_1476.length : Int)) fun x_1492 => (.ok (some x_1492))) (.ok (some ((0 : Int), (1 : Int))))) fun part_1495 => (.ok part_1495)) (.ok part_1482))) fun s_1496 => (W.bind (W.of (Rt.bind (Rt.bind (Rt.bind (Rt.bind (t_mean_far z_1426.1 s_1449 s_1431.1) fun x_1508 => Rt.bind (Rt.bind (t_mean_far z_1426.1 s_1449 s_1431.1) fun x_1506 => .ok (x_1506 :: ([] : List (Option (Int × Int))))) fun x_1509 => .ok (x_1508 :: x_1509)) lineR) fun x_1510 => reprR (CEq.p (cL (cO (cP (qc cI (q1 cI))))) x_1510)) fun x_1516 => (Rt.bind (Rt.bind (lineR (s_1496 :: (s_1496 :: ([] : List (Option (Int × Int)))))) fun x_1515 => reprR (CEq.p (cL (cO (cP (qc cI (q1 cI))))) x_1515)) fun x_1517 => (.ok (!decide (x_1516 = x_1517)))))) fun k_1565 => W.cond k_1565 (W.ok false) (W.bind (W.of (Rt.bind (Rt.bind (lineR ((0 : Int) :: ([] : List Int))) fun x_1522 => (Rt.bind (Rt.bind (lcT pairs_1476 (fun (x_1520 : (Int × (Int × Int))) => (.ok true)) (fun (x_1520 : (Int × (Int × Int))) => (.ok x_1520.1))) lineR) fun x_1523 => catR x_1522 x_1523)) fun x_1524 => maxR x_1524)) fun most_1525 => (W.bind (W.of (cond (decide (most_1525 = (0 : Int))) (.ok ((0 : Int), (none : Option (Int × Int)))) (Rt.bind (Rt.bind (Rt.bind (Rt.bind (lcT pairs_1476 (fun (x_1531 : (Int × (Int × Int))) => (.ok (decide (x_1531.1 = most_1525)))) (fun (x_1531 : (Int × (Int × Int))) => (.ok x_1531.2))) lineR) fun x_1535 => ixR x_1535 (0 : Int)) fun x_1537 => (.ok (some x_1537))) fun x_1539 => .ok (most_1525, x_1539)))) fun wide_1541 => (W.of (Rt.bind (Rt.bind (Rt.bind (Rt.bind (t_widest_pair z_1426.1 s_1449 s_1431.1) fun x_1553 => Rt.bind (Rt.bind (t_widest_pair z_1426.1 s_1449 s_1431.1) fun x_1551 => .ok (x_1551 :: ([] : List (Int × (Option (Int × Int)))))) fun x_1554 => .ok (x_1553 :: x_1554)) lineR) fun x_1555 => reprR (CEq.p (cL (cP (qc cI (q1 (cO (cP (qc cI (q1 cI)))))))) x_1555)) fun x_1561 => (Rt.bind (Rt.bind (lineR (wide_1541 :: (wide_1541 :: ([] : List (Int × (Option (Int × Int))))))) fun x_1560 => reprR (CEq.p (cL (cP (qc cI (q1 (cO (cP (qc cI (q1 cI)))))))) x_1560)) fun x_1562 => (.ok (decide (x_1561 = x_1562))))))))))))))))))
theorem B__law_right (k : Nat) (p_bag : Unit) : WB (PoolI k) 14 [(0, .val ((cRk k).d p_bag))] b__law_right cB (W.bind (W.bind (W.of (Rt.bind (.ok p_bag) fun x_1424 => Rt.bind (.ok (4 : Int)) fun x_1425 => .ok (x_1424, x_1425))) fun x => t__law_row x.1 x.2) fun z_1426 => (W.bind (W.bind (W.bind (W.of (.ok p_bag)) fun x => t__law_way x) fun x_1429 => W.bind (W.of (Rt.bind (Rt.bind (.ok z_1426.2) fun x_1427 => Rt.bind (.ok ([] : List (List Int))) fun x_1428 => .ok (x_1427 :: x_1428)) lineR)) fun x_1430 => W.ok (x_1429, x_1430)) fun s_1431 => (W.bind (W.bind (W.bind (W.bind (W.of (Rt.bind (.ok p_bag) fun x_1432 => Rt.bind (.ok (6 : Int)) fun x_1433 => .ok (x_1432, x_1433))) fun x => t__law_take x.1 x.2) fun x_1434 => (W.of (rngR1 x_1434))) fun xs_1563 => forW xs_1563 s_1431.2 (fun (s_1435 : (List (List Int))) (x_1436 : Int) => (W.bind (W.bind (W.of (.ok s_1435)) fun x_1446 => (W.bind (W.bind (W.bind (W.bind (W.bind (W.bind (W.of (Rt.bind (.ok p_bag) fun x_1437 => Rt.bind (.ok (4 : Int)) fun x_1438 => .ok (x_1437, x_1438))) fun x => t__law_take x.1 x.2) fun x_1439 => (W.bind (W.of (.ok (0 : Int))) fun x_1440 => (W.ok (decide (x_1440 < x_1439))))) fun k_1443 => W.cond k_1443 (W.bind (W.of (Rt.bind (.ok p_bag) fun x_1441 => Rt.bind (.ok z_1426.2) fun x_1442 => .ok (x_1441, x_1442))) fun x => t__law_mixed x.1 x.2) (W.of (.ok z_1426.2))) fun x_1444 => W.bind (W.ok ([] : List (List Int))) fun x_1445 => W.ok (x_1444 :: x_1445)) fun xs => W.of (lineR xs)) fun x_1447 => (W.of (catR x_1446 x_1447)))) fun rows_1448 => (W.ok rows_1448)))) fun s_1449 => (W.bind (W.of (Rt.bind (Rt.bind (.ok s_1449) fun x_1450 => Rt.bind (.ok s_1431.1) fun x_1451 => .ok (x_1450, x_1451)) fun x => t__law_medians x.1 x.2)) fun due_1452 => (W.bind (W.of (Rt.bind (Rt.bind (Rt.bind (Rt.bind (Rt.bind (Rt.bind (.ok z_1426.1) fun x_1455 => Rt.bind (Rt.bind (.ok s_1449) fun x_1453 => Rt.bind (.ok s_1431.1) fun x_1454 => .ok (x_1453, x_1454)) fun x_1456 => .ok (x_1455, x_1456)) fun x => t_medians x.1 x.2.1 x.2.2) fun x_1464 => Rt.bind (Rt.bind (Rt.bind (Rt.bind (.ok s_1431.1) fun x_1459 => Rt.bind (Rt.bind (.ok s_1449) fun x_1457 => Rt.bind (.ok z_1426.1) fun x_1458 => .ok (x_1457, x_1458)) fun x_1460 => .ok (x_1459, x_1460)) fun b_1461 => t_medians b_1461.2.2 b_1461.2.1 b_1461.1) fun x_1462 => Rt.bind (.ok ([] : List (Int × (List (List Int))))) fun x_1463 => .ok (x_1462 :: x_1463)) fun x_1465 => .ok (x_1464 :: x_1465)) lineR) fun x_1466 => reprR (CEq.p (cL (cP (qc cI (q1 (cT (cT cI)))))) x_1466)) fun x_1472 => (Rt.bind (Rt.bind (Rt.bind (Rt.bind (.ok due_1452) fun x_1469 => Rt.bind (Rt.bind (.ok due_1452) fun x_1467 => Rt.bind (.ok ([] : List (Int × (List (List Int))))) fun x_1468 => .ok (x_1467 :: x_1468)) fun x_1470 => .ok (x_1469 :: x_1470)) lineR) fun x_1471 => reprR (CEq.p (cL (cP (qc cI (q1 (cT (cT cI)))))) x_1471)) fun x_1473 => (.ok (!decide (x_1472 = x_1473)))))) fun k_1566 => W.cond k_1566 (W.of (.ok false)) (W.bind (W.of (Rt.bind (Rt.bind (.ok s_1449) fun x_1474 => Rt.bind (.ok s_1431.1) fun x_1475 => .ok (x_1474, x_1475)) fun x => t__law_pair_far x.1 x.2)) fun pairs_1476 => (W.bind (W.of (Rt.bind (Rt.bind (.ok pairs_1476) fun xs_1478 => Rt.bind (lcT xs_1478 (fun (x_1477 : (Int × (Int × Int))) => (.ok true)) (fun (x_1477 : (Int × (Int × Int))) => (.ok x_1477.1))) lineR) fun x_1479 => (.ok x_1479.sum))) fun whole_1480 => (W.bind (W.of (Rt.bind (.ok ()) fun x_1481 => (.ok (none : Option (Int × Int))))) fun part_1482 => (W.bind (W.of (Rt.bind (Rt.bind (.ok pairs_1476) fun x_1483 => (Rt.bind (Rt.bind (.ok ([] : List (Int × (Int × Int)))) lineR) fun x_1484 => (.ok (!decide (x_1483 = x_1484))))) fun k_1564 => cond k_1564 (Rt.bind (Rt.bind (Rt.bind (.ok whole_1480) fun x_1485 => (Rt.bind (.ok (0 : Int)) fun x_1486 => (.ok (decide (x_1486 < x_1485))))) fun k_1494 => cond k_1494 (Rt.bind (Rt.bind (Rt.bind (.ok whole_1480) fun x_1488 => Rt.bind (Rt.bind (.ok pairs_1476) fun x_1487 => (.ok (x_1487.length : Int))) fun x_1489 => .ok (x_1488, x_1489)) fun x => t__law_lowest x.1 x.2) fun x_1492 => (.ok (some x_1492))) (Rt.bind (Rt.bind (.ok (0 : Int)) fun x_1490 => Rt.bind (.ok (1 : Int)) fun x_1491 => .ok (x_1490, x_1491)) fun x_1493 => (.ok (some x_1493)))) fun part_1495 => (.ok part_1495)) (Rt.bind (.ok ()) fun _ => (.ok part_1482)))) fun s_1496 => (W.bind (W.of (Rt.bind (Rt.bind (Rt.bind (Rt.bind (Rt.bind (Rt.bind (.ok z_1426.1) fun x_1499 => Rt.bind (Rt.bind (.ok s_1449) fun x_1497 => Rt.bind (.ok s_1431.1) fun x_1498 => .ok (x_1497, x_1498)) fun x_1500 => .ok (x_1499, x_1500)) fun x => t_mean_far x.1 x.2.1 x.2.2) fun x_1508 => Rt.bind (Rt.bind (Rt.bind (Rt.bind (.ok s_1431.1) fun x_1503 => Rt.bind (Rt.bind (.ok s_1449) fun x_1501 => Rt.bind (.ok z_1426.1) fun x_1502 => .ok (x_1501, x_1502)) fun x_1504 => .ok (x_1503, x_1504)) fun b_1505 => t_mean_far b_1505.2.2 b_1505.2.1 b_1505.1) fun x_1506 => Rt.bind (.ok ([] : List (Option (Int × Int)))) fun x_1507 => .ok (x_1506 :: x_1507)) fun x_1509 => .ok (x_1508 :: x_1509)) lineR) fun x_1510 => reprR (CEq.p (cL (cO (cP (qc cI (q1 cI))))) x_1510)) fun x_1516 => (Rt.bind (Rt.bind (Rt.bind (Rt.bind (.ok s_1496) fun x_1513 => Rt.bind (Rt.bind (.ok s_1496) fun x_1511 => Rt.bind (.ok ([] : List (Option (Int × Int)))) fun x_1512 => .ok (x_1511 :: x_1512)) fun x_1514 => .ok (x_1513 :: x_1514)) lineR) fun x_1515 => reprR (CEq.p (cL (cO (cP (qc cI (q1 cI))))) x_1515)) fun x_1517 => (.ok (!decide (x_1516 = x_1517)))))) fun k_1565 => W.cond k_1565 (W.of (.ok false)) (W.bind (W.of (Rt.bind (Rt.bind (Rt.bind (Rt.bind (.ok (0 : Int)) fun x_1518 => Rt.bind (.ok ([] : List Int)) fun x_1519 => .ok (x_1518 :: x_1519)) lineR) fun x_1522 => (Rt.bind (Rt.bind (.ok pairs_1476) fun xs_1521 => Rt.bind (lcT xs_1521 (fun (x_1520 : (Int × (Int × Int))) => (.ok true)) (fun (x_1520 : (Int × (Int × Int))) => (.ok x_1520.1))) lineR) fun x_1523 => catR x_1522 x_1523)) fun x_1524 => maxR x_1524)) fun most_1525 => (W.bind (W.of (Rt.bind (Rt.bind (.ok most_1525) fun x_1526 => (Rt.bind (.ok (0 : Int)) fun x_1527 => (.ok (decide (x_1526 = x_1527))))) fun k_1540 => cond k_1540 (Rt.bind (.ok (0 : Int)) fun x_1529 => Rt.bind (Rt.bind (.ok ()) fun x_1528 => (.ok (none : Option (Int × Int)))) fun x_1530 => .ok (x_1529, x_1530)) (Rt.bind (.ok most_1525) fun x_1538 => Rt.bind (Rt.bind (Rt.bind (Rt.bind (.ok pairs_1476) fun xs_1534 => Rt.bind (lcT xs_1534 (fun (x_1531 : (Int × (Int × Int))) => (Rt.bind (.ok x_1531.1) fun x_1532 => (Rt.bind (.ok most_1525) fun x_1533 => (.ok (decide (x_1532 = x_1533)))))) (fun (x_1531 : (Int × (Int × Int))) => (.ok x_1531.2))) lineR) fun x_1535 => (Rt.bind (.ok (0 : Int)) fun x_1536 => ixR x_1535 x_1536)) fun x_1537 => (.ok (some x_1537))) fun x_1539 => .ok (x_1538, x_1539)))) fun wide_1541 => (W.of (Rt.bind (Rt.bind (Rt.bind (Rt.bind (Rt.bind (Rt.bind (.ok z_1426.1) fun x_1544 => Rt.bind (Rt.bind (.ok s_1449) fun x_1542 => Rt.bind (.ok s_1431.1) fun x_1543 => .ok (x_1542, x_1543)) fun x_1545 => .ok (x_1544, x_1545)) fun x => t_widest_pair x.1 x.2.1 x.2.2) fun x_1553 => Rt.bind (Rt.bind (Rt.bind (Rt.bind (.ok s_1431.1) fun x_1548 => Rt.bind (Rt.bind (.ok s_1449) fun x_1546 => Rt.bind (.ok z_1426.1) fun x_1547 => .ok (x_1546, x_1547)) fun x_1549 => .ok (x_1548, x_1549)) fun b_1550 => t_widest_pair b_1550.2.2 b_1550.2.1 b_1550.1) fun x_1551 => Rt.bind (.ok ([] : List (Int × (Option (Int × Int))))) fun x_1552 => .ok (x_1551 :: x_1552)) fun x_1554 => .ok (x_1553 :: x_1554)) lineR) fun x_1555 => reprR (CEq.p (cL (cP (qc cI (q1 (cO (cP (qc cI (q1 cI)))))))) x_1555)) fun x_1561 => (Rt.bind (Rt.bind (Rt.bind (Rt.bind (.ok wide_1541) fun x_1558 => Rt.bind (Rt.bind (.ok wide_1541) fun x_1556 => Rt.bind (.ok ([] : List (Int × (Option (Int × Int))))) fun x_1557 => .ok (x_1556 :: x_1557)) fun x_1559 => .ok (x_1558 :: x_1559)) lineR) fun x_1560 => reprR (CEq.p (cL (cP (qc cI (q1 (cO (cP (qc cI (q1 cI)))))))) x_1560)) fun x_1562 => (.ok (decide (x_1561 = x_1562)))))))))))))))))) := (wb_seq (wn_asg (we_call (T__law_row k) (wg_of (ta_cons (te_var (c := (cRk k)) rfl) (ta_one te_int))) rfl (fun _ => rfl)) (fun z_1426 => (gt_P (gts_cons (gt_set rfl) (gts_cons (gt_set rfl) gts_nil))))) (fun z_1426 => (wb_seq (wn_par (wp_cons (wp_V (we_call (T__law_way k) (wg_of (ta_one (te_var (c := (cRk k)) rfl))) rfl (fun _ => rfl))) (wp_one (wp_V (wg_of (te_tupT (th_cons (te_var (c := (cT cI)) rfl) (th_nil (c := (cT cI))))))))) rfl) (fun s_1431 => (wb_seq (wn_for (s0 := s_1431.2) (Gs := (fun (s_1435 : (List (List Int))) => [(0, .val ((cRk k).d p_bag)), (8, .val (cI.d z_1426.1)), (9, .val ((cT cI).d z_1426.2)), (10, .val (cS.d s_1431.1)), (11, .val ((cT (cT cI)).d s_1435))])) (wg_one (wg_un u_rng1 (we_call (T__law_take k) (wg_of (ta_cons (te_var (c := (cRk k)) rfl) (ta_one te_int))) rfl (fun _ => rfl)))) (by exact ⟨rfl, rfl, rfl, rfl, rfl, trivial⟩) (fun s_1435 x_1436 => (gt_set rfl)) (fun s_1435 x_1436 => (wn_to (fun rows_1448 => rows_1448) (wn_set (we_op o_addT (wg_of (te_var (c := (cT (cT cI))) rfl)) (we_tupT (wh_cons (wg_if (ww_test (we_op o_gt (we_call (T__law_take k) (wg_of (ta_cons (te_var (c := (cRk k)) rfl) (ta_one te_int))) rfl (fun _ => rfl)) (wg_of te_int))) (we_call (T__law_mixed k) (wg_of (ta_cons (te_var (c := (cRk k)) rfl) (ta_one (te_var (c := (cT cI)) rfl)))) rfl (fun _ => rfl)) (wg_of (te_var (c := (cT cI)) rfl))) (wh_nil (c := (cT cI)))))) rfl) (fun rows_1448 => (by exact ⟨rfl, rfl, rfl, rfl, rfl, trivial⟩))))) (fun s_1449 => (wb_seq (wn_of (tn_set (te_call T__law_medians (ta_cons (te_var (c := (cT (cT cI))) rfl) (ta_one (te_var (c := cS) rfl))) rfl (fun _ => rfl)) rfl)) (fun due_1452 => (wb_guard (wg_of (tt_test (te_op (o_ne (c := cS) rfl) (tg_one (te_repr (fun _ => rfl) (te_valL (tg_lstL (th_cons (te_call T_medians (ta_cons (te_var (c := cI) rfl) (ta_cons (te_var (c := (cT (cT cI))) rfl) (ta_one (te_var (c := cS) rfl)))) rfl (fun _ => rfl)) (th_cons (te_callK (q2 := (qc cS (qc (cT (cT cI)) (q1 cI)))) (fun b => (b.2.2, b.2.1, b.1)) T_medians (ta_cons (te_var (c := cS) rfl) (ta_cons (te_var (c := (cT (cT cI))) rfl) (ta_one (te_var (c := cI) rfl)))) rfl (fun _ => rfl)) (th_nil (c := (cP (qc cI (q1 (cT (cT cI))))))))))))) (tg_one (te_repr (fun _ => rfl) (te_valL (tg_lstL (th_cons (te_var (c := (cP (qc cI (q1 (cT (cT cI)))))) rfl) (th_cons (te_var (c := (cP (qc cI (q1 (cT (cT cI)))))) rfl) (th_nil (c := (cP (qc cI (q1 (cT (cT cI)))))))))))))))) (wb_ret (wg_of te_bl)) (wb_seq (wn_of (tn_set (te_call T__law_pair_far (ta_cons (te_var (c := (cT (cT cI))) rfl) (ta_one (te_var (c := cS) rfl))) rfl (fun _ => rfl)) rfl)) (fun pairs_1476 => (wb_seq (wn_of (tn_set (tg_one (tg_un u_sum (te_valL (tg_lc (ti_L (te_var (c := (cL (cP (qc cI (q1 (cP (qc cI (q1 cI)))))))) rfl)) rfl (fun x_1477 => (gc_P (gcs_cons (gc_set rfl rfl) (gcs_cons (gc_set rfl rfl) gcs_nil)))) (fun x_1477 => tt_yes) (fun x_1477 => (te_var (c := cI) rfl)))))) rfl)) (fun whole_1480 => (wb_seq (wn_of (tn_set (te_none te_non) rfl)) (fun part_1482 => (wb_seq (wn_of (tn_if (Gs := (fun (s_1496 : (Option (Int × Int))) => [(3, .val ((cL (cP (qc cI (q1 (cP (qc cI (q1 cI))))))).d pairs_1476)), (8, .val (cI.d z_1426.1)), (10, .val (cS.d s_1431.1)), (11, .val ((cT (cT cI)).d s_1449)), (5, .val ((cO (cP (qc cI (q1 cI)))).d s_1496))])) (tt_test (te_op (o_ne (c := (cL (cP (qc cI (q1 (cP (qc cI (q1 cI)))))))) rfl) (te_var (c := (cL (cP (qc cI (q1 (cP (qc cI (q1 cI)))))))) rfl) (te_valL (tg_lstL (th_nil (c := (cP (qc cI (q1 (cP (qc cI (q1 cI)))))))))))) (tn_to (fun part_1495 => part_1495) (tn_set (tg_if (tt_test (te_op o_gt (te_var (c := cI) rfl) te_int)) (te_some (te_call T__law_lowest (ta_cons (te_var (c := cI) rfl) (ta_one (tg_one (tg_len (ts_L (te_var (c := (cL (cP (qc cI (q1 (cP (qc cI (q1 cI)))))))) rfl)))))) rfl (fun _ => rfl))) (te_some (te_tupP (q := (qc cI (q1 cI))) (ta_cons te_int (ta_one te_int)) rfl))) rfl) (fun part_1495 => (by exact ⟨rfl, rfl, rfl, rfl, rfl, trivial⟩))) (tn_to (fun _ => part_1482) tn_skip (fun _ => (by exact ⟨rfl, rfl, rfl, rfl, rfl, trivial⟩))))) (fun s_1496 => (wb_guard (wg_of (tt_test (te_op (o_ne (c := cS) rfl) (tg_one (te_repr (fun _ => rfl) (te_valL (tg_lstL (th_cons (te_call T_mean_far (ta_cons (te_var (c := cI) rfl) (ta_cons (te_var (c := (cT (cT cI))) rfl) (ta_one (te_var (c := cS) rfl)))) rfl (fun _ => rfl)) (th_cons (te_callK (q2 := (qc cS (qc (cT (cT cI)) (q1 cI)))) (fun b => (b.2.2, b.2.1, b.1)) T_mean_far (ta_cons (te_var (c := cS) rfl) (ta_cons (te_var (c := (cT (cT cI))) rfl) (ta_one (te_var (c := cI) rfl)))) rfl (fun _ => rfl)) (th_nil (c := (cO (cP (qc cI (q1 cI)))))))))))) (tg_one (te_repr (fun _ => rfl) (te_valL (tg_lstL (th_cons (te_var (c := (cO (cP (qc cI (q1 cI))))) rfl) (th_cons (te_var (c := (cO (cP (qc cI (q1 cI))))) rfl) (th_nil (c := (cO (cP (qc cI (q1 cI))))))))))))))) (wb_ret (wg_of te_bl)) (wb_seq (wn_of (tn_set (tg_one (tg_un u_max (te_op o_addL (te_valL (tg_lstL (th_cons te_int (th_nil (c := cI))))) (te_valL (tg_lc (ti_L (te_var (c := (cL (cP (qc cI (q1 (cP (qc cI (q1 cI)))))))) rfl)) rfl (fun x_1520 => (gc_P (gcs_cons (gc_set rfl rfl) (gcs_cons (gc_set rfl rfl) gcs_nil)))) (fun x_1520 => tt_yes) (fun x_1520 => (te_var (c := cI) rfl))))))) rfl)) (fun most_1525 => (wb_seq (wn_of (tn_set (tg_if (tt_test (te_op (o_eq (c := cI) rfl) (te_var (c := cI) rfl) te_int)) (te_tupP (q := (qc cI (q1 (cO (cP (qc cI (q1 cI))))))) (ta_cons te_int (ta_one (te_none te_non))) rfl) (te_tupP (q := (qc cI (q1 (cO (cP (qc cI (q1 cI))))))) (ta_cons (te_var (c := cI) rfl) (ta_one (te_some (te_ix (ts_L (te_valL (tg_lc (ti_L (te_var (c := (cL (cP (qc cI (q1 (cP (qc cI (q1 cI)))))))) rfl)) rfl (fun x_1531 => (gc_P (gcs_cons (gc_set rfl rfl) (gcs_cons (gc_set rfl rfl) gcs_nil)))) (fun x_1531 => (tt_test (te_op (o_eq (c := cI) rfl) (te_var (c := cI) rfl) (te_var (c := cI) rfl)))) (fun x_1531 => (te_var (c := (cP (qc cI (q1 cI)))) rfl))))) te_int)))) rfl)) rfl)) (fun wide_1541 => (wb_ret (wg_of (te_op (o_eq (c := cS) rfl) (tg_one (te_repr (fun _ => rfl) (te_valL (tg_lstL (th_cons (te_call T_widest_pair (ta_cons (te_var (c := cI) rfl) (ta_cons (te_var (c := (cT (cT cI))) rfl) (ta_one (te_var (c := cS) rfl)))) rfl (fun _ => rfl)) (th_cons (te_callK (q2 := (qc cS (qc (cT (cT cI)) (q1 cI)))) (fun b => (b.2.2, b.2.1, b.1)) T_widest_pair (ta_cons (te_var (c := cS) rfl) (ta_cons (te_var (c := (cT (cT cI))) rfl) (ta_one (te_var (c := cI) rfl)))) rfl (fun _ => rfl)) (th_nil (c := (cP (qc cI (q1 (cO (cP (qc cI (q1 cI))))))))))))))) (tg_one (te_repr (fun _ => rfl) (te_valL (tg_lstL (th_cons (te_var (c := (cP (qc cI (q1 (cO (cP (qc cI (q1 cI)))))))) rfl) (th_cons (te_var (c := (cP (qc cI (q1 (cO (cP (qc cI (q1 cI)))))))) rfl) (th_nil (c := (cP (qc cI (q1 (cO (cP (qc cI (q1 cI))))))))))))))))))))))))))))))))))))))))
theorem T__law_right (k : Nat) : WF (PoolI k) m__law_right (q1 (cRk k)) cB (fun x => t__law_right x) := wf_b (fun a => B__law_right k a) rfl rfl
end G

set_option maxRecDepth 100000
set_option maxHeartbeats 4000000
/-! P73a: far_from, _law_off are breadth first walks -/
namespace G
open PySem PySem.Spec PyProof.Rows L2 Ev Ty
abbrev Row := List Int
/-- what is known of the steps of a way, on a set of rows that is closed and small -/
structure Steps (S : Row → Prop) (way : Str) (P : Row → List (Int × Int)) (dn : Row → Int × Int → Row) (B : Nat) : Prop where
  pairs : ∀ x, S x → t_pairs_of x way = .ok (P x)
  done : ∀ x, S x → ∀ p ∈ P x, t_done_by x way p = .ok (dn x p) ∧ S (dn x p)
  bound : ∀ L : List Row, L.Nodup → (∀ x ∈ L, S x) → L.length ≤ B
def NB (P : Row → List (Int × Int)) (dn : Row → Int × Int → Row) (x : Row) : List Row := (P x).map (dn x)
def keys {α β : Type} (kv : List (α × β)) : List α := kv.map (·.1)
def vals {α β : Type} (kv : List (α × β)) : List β := kv.map (·.2)
theorem lk_kv (kv : List (Row × Int)) (q : Row) : lk kv q = Bf.look (keys kv) (vals kv) q := lk_look kv q
def farF (way : Str) (x : Row) (s : List (Row × Int) × List Row) (p : Int × Int) : Rt (List (Row × Int) × List Row) :=
  Rt.bind (t_done_by x way p) fun other => (Rt.bind (cond (negB true (lk s.1 other).isSome) (Rt.bind (Rt.bind (Rt.bind (dGetR s.1 x) fun y => (.ok (y + (1 : Int)))) fun y => (ptR s.1 other y)) fun known => (Rt.bind (apR s.2 other) fun line => (.ok (known, line)))) (.ok (s.1, s.2))) fun s => (.ok (s.1, s.2)))
def farW (way : Str) (s : List (Row × Int) × List Row × Int) : Rt (List (Row × Int) × List Row × Int) :=
  Rt.bind (Rt.bind (ixR s.2.1 s.2.2) fun x => .ok (x, s.2.2 + (1 : Int))) fun u => (Rt.bind (Rt.bind (t_pairs_of u.1 way) fun xs => forT xs (s.1, s.2.1) (farF way u.1)) fun v => (.ok (v.1, v.2, u.2)))
theorem far_eq (row : Row) (way : Str) : t_far_from row way = Rt.bind (Rt.bind (Rt.bind (lineR (row :: ([] : List (List Int)))) fun x => .ok (x, (0 : Int))) fun x => .ok ([(row, (0 : Int))], x)) fun s => (Rt.bind (whileT 1000 (fun s => .ok (decide (s.2.2 < (s.2.1.length : Int)))) (farW way) (s.1, s.2.1, s.2.2)) fun s => (.ok s.1)) := rfl
section
variable {S : Row → Prop} {way : Str} {P : Row → List (Int × Int)} {dn : Row → Int × Int → Row} {B : Nat} (H : Steps S way P dn B) (hB : B ≤ 900) {row : Row}
include H hB
theorem farF_ok (x : Row) (j : Nat) (c : Int) (kv : List (Row × Int)) (line : List Row) (hx : S x) (hl : line = keys kv) (hS : ∀ y ∈ line, S y) (hN : Bf.Now (NB P dn) row (keys kv) (vals kv) j c x (NB P dn x)) :
    ∃ s', forT (P x) (kv, line) (farF way x) = .ok s' ∧ s'.2 = keys s'.1 ∧ (∀ y ∈ s'.2, S y) ∧ line.length ≤ s'.2.length ∧ Bf.Inv (NB P dn) row (keys s'.1) (vals s'.1) (j + 1) c := by
  obtain ⟨s', e, hI⟩ := forT_inv (f := farF way x) (fun r (s : List (Row × Int) × List Row) => (∀ p ∈ r, p ∈ P x) ∧ s.2 = keys s.1 ∧ (∀ y ∈ s.2, S y) ∧ line.length ≤ s.2.length ∧ Bf.Now (NB P dn) row (keys s.1) (vals s.1) j c x (r.map (dn x))) (P x) (kv, line) (fun p r s hI => by
    obtain ⟨hp, h1, h2, h2', h3⟩ := hI
    obtain ⟨d1, d2⟩ := H.done x hx p (hp p List.mem_cons_self)
    unfold farF
    rw [d1, Rt.ok_bind]
    have hlen : s.2.length ≤ 900 := Nat.le_trans (H.bound s.2 (h1 ▸ h3.nd) h2) hB
    have hlen' : s.1.length ≤ 900 := by rw [h1, keys, List.length_map] at hlen; exact hlen
    rw [List.map_cons] at h3
    cases lo : lk s.1 (dn x p) with
    | some v => exact ⟨s, rfl, fun q hq => hp q (List.mem_cons_of_mem _ hq), h1, h2, h2', h3.old (by rw [← lk_kv, lo]; rfl)⟩
    | none =>
      have at_ : dGetR s.1 x = .ok c := dGetR_some (by rw [lk_kv]; exact h3.at_)
      refine ⟨(s.1 ++ [(dn x p, c + 1)], s.2 ++ [dn x p]), ?_, fun q hq => hp q (List.mem_cons_of_mem _ hq), by simp only [h1, keys, List.map_append, List.map_cons, List.map_nil], fun y hy => ?_, by simp only [List.length_append]; omega, ?_⟩
      · show Rt.bind (cond true _ _) _ = _
        rw [cond_true, at_]
        simp only [Rt.ok_bind]
        rw [ptR_new lo (by omega)]
        simp only [Rt.ok_bind]
        rw [apR_of (by omega)]
        rfl
      · rcases List.mem_append.mp hy with hy | hy
        · exact h2 y hy
        · rw [List.mem_singleton.mp hy]
          exact d2
      · have := h3.new (by rw [← lk_kv]; exact lo)
        simp only [keys, vals, List.map_append, List.map_cons, List.map_nil] at this ⊢
        exact this) ⟨fun _ h => h, hl, hS, Nat.le_refl _, hN⟩
  obtain ⟨_, h1, h2, h2', h3⟩ := hI
  exact ⟨s', e, h1, h2, h2', h3.end_⟩
theorem far_ok (h0 : S row) : ∃ kv, t_far_from row way = .ok kv ∧ Bf.Bfs (NB P dn) row (keys kv) (vals kv) ∧ (∀ y ∈ keys kv, S y) := by
  rw [far_eq, lineR_of (show [row].length ≤ 16777216 by simp)]
  simp only [Rt.ok_bind]
  obtain ⟨s', e, hI, hc⟩ := whileT_inv (σ := List (Row × Int) × List Row × Int) (c := fun s => .ok (decide (s.2.2 < (s.2.1.length : Int)))) (f := farW way)
    (fun s => ∃ (j : Nat) (c : Int), s.2.2 = (j : Int) ∧ j ≤ s.2.1.length ∧ s.2.1 = keys s.1 ∧ (∀ y ∈ s.2.1, S y) ∧ Bf.Inv (NB P dn) row (keys s.1) (vals s.1) j c) (fun s => 901 - s.2.2.toNat) (fun s hI => by
      obtain ⟨j, c, h1, h2, h3, h4, h5⟩ := hI
      obtain ⟨kv, line, at_⟩ := s
      simp only at h1 h2 h3 h4 h5 ⊢
      subst h1
      by_cases hj : j < line.length
      · right
        refine ⟨by rw [decide_eq_true (by omega)], ?_⟩
        have hlen : line.length ≤ 900 := Nat.le_trans (H.bound line (h3 ▸ h5.nd) h4) hB
        unfold farW
        rw [ixR_nat hj]
        simp only [Rt.ok_bind]
        have hx : (keys kv)[j]? = some line[j] := by rw [← h3]; exact List.getElem?_eq_getElem hj
        obtain ⟨c', _, hN⟩ := h5.now hx
        obtain ⟨s', e, g1, g2, g2', g3⟩ := farF_ok H hB line[j] j c' kv line (h4 _ (List.getElem_mem hj)) h3 h4 hN
        rw [H.pairs _ (h4 _ (List.getElem_mem hj)), Rt.ok_bind, e]
        refine ⟨(s'.1, s'.2, (j : Int) + 1), rfl, ⟨j + 1, c', rfl, ?_, g1, g2, g3⟩, ?_⟩
        · simp only
          omega
        · simp only; omega
      · left
        rw [decide_eq_false (by omega)]) 1000 ([(row, 0)], [row], 0) ⟨0, 0, rfl, Nat.zero_le _, rfl, fun y hy => by rw [List.mem_singleton.mp hy]; exact h0, Bf.inv_start⟩ (by simp)
  rw [e]
  obtain ⟨j, c, h1, h2, h3, h4, h5⟩ := hI
  refine ⟨s'.1, rfl, h5.end_ ?_, fun y hy => h4 y (h3 ▸ hy)⟩
  have hc' := Rt.ok.inj hc
  have := of_decide_eq_false hc'
  rw [← h3]
  omega
end
end G

set_option maxRecDepth 100000
set_option maxHeartbeats 4000000
/-! P73b: _law_off -/
namespace G
open PySem PySem.Spec PyProof.Rows L2 Ev Ty
def offF (x : Row) (s : List (Row × Int) × List Row) (y : Row) : Rt (List (Row × Int) × List Row) :=
  Rt.bind (cond (negB true (lk s.1 y).isSome) (Rt.bind (Rt.bind (Rt.bind (dGetR s.1 x) fun v => (.ok (v + (1 : Int)))) fun v => (ptR s.1 y v)) fun f => (Rt.bind (apR s.2 y) fun l => (.ok (f, l)))) (.ok (s.1, s.2))) fun s => (.ok (s.1, s.2))
def offG (way : Str) (s : List (Row × Int) × List Row) (x : Row) : Rt (List (Row × Int) × List Row) :=
  Rt.bind (Rt.bind (t__law_steps x way) fun xs => forT xs (s.1, s.2) (offF x)) fun s => (.ok (s.1, s.2))
def offW (way : Str) (s : List (Row × Int) × List Row) : Rt (List (Row × Int) × List Row) :=
  Rt.bind (lineR ([] : List (List Int))) fun later => Rt.bind (forT s.2 (s.1, later) (offG way)) fun v => Rt.bind (.ok v.2) fun front => (.ok (v.1, front))
theorem off_eq (row : Row) (way : Str) : t__law_off row way = Rt.bind (Rt.bind (lineR (row :: ([] : List (List Int)))) fun x => .ok ([(row, (0 : Int))], x)) fun s => (Rt.bind (whileT 1000 (fun s => (Rt.bind (lineR ([] : List (List Int))) fun x => (.ok (!decide (s.2 = x))))) (offW way) (s.1, s.2)) fun s => (.ok s.1)) := rfl
structure LSteps (S : Row → Prop) (way : Str) (N : Row → List Row) (B : Nat) : Prop where
  steps : ∀ x, S x → t__law_steps x way = .ok (N x) ∧ ∀ y ∈ N x, S y
  bound : ∀ L : List Row, L.Nodup → (∀ x ∈ L, S x) → L.length ≤ B
section
variable {S : Row → Prop} {way : Str} {N : Row → List Row} {B : Nat} (H : LSteps S way N B) (hB : B ≤ 900) {row : Row}
include H hB
theorem offG_ok (x : Row) (r : List Row) (j : Nat) (c : Int) (kv : List (Row × Int)) (later : List Row) (hd : (keys kv).drop j = x :: (r ++ later)) (hS : ∀ y ∈ keys kv, S y) (hN : Bf.Now N row (keys kv) (vals kv) j c x (N x)) :
    ∃ s', offG way (kv, later) x = .ok s' ∧ (keys s'.1).drop (j + 1) = r ++ s'.2 ∧ (∀ y ∈ keys s'.1, S y) ∧ j + 1 ≤ (keys s'.1).length ∧ Bf.Inv N row (keys s'.1) (vals s'.1) (j + 1) c := by
  have hx : S x := hS x (List.mem_of_mem_drop (i := j) (by rw [hd]; exact List.mem_cons_self))
  obtain ⟨n1, n2⟩ := H.steps x hx
  unfold offG
  rw [n1, Rt.ok_bind]
  obtain ⟨s', e, hI⟩ := forT_inv (f := offF x) (fun q (s : List (Row × Int) × List Row) => (∀ y ∈ q, y ∈ N x) ∧ (keys s.1).drop j = x :: (r ++ s.2) ∧ (∀ y ∈ keys s.1, S y) ∧ Bf.Now N row (keys s.1) (vals s.1) j c x q) (N x) (kv, later) (fun y q s hI => by
    obtain ⟨hp, h1, h2, h3⟩ := hI
    unfold offF
    have hlen : (keys s.1).length ≤ 900 := Nat.le_trans (H.bound _ h3.nd h2) hB
    have hlen' : s.1.length ≤ 900 := by rw [keys, List.length_map] at hlen; exact hlen
    have hl2 : s.2.length ≤ 900 := by
      have := congrArg List.length h1
      rw [List.length_drop, List.length_cons, List.length_append] at this
      omega
    cases lo : lk s.1 y with
    | some v => exact ⟨s, rfl, fun z hz => hp z (List.mem_cons_of_mem _ hz), h1, h2, h3.old (by rw [← lk_kv, lo]; rfl)⟩
    | none =>
      have at_ : dGetR s.1 x = .ok c := dGetR_some (by rw [lk_kv]; exact h3.at_)
      have hj : j < (keys s.1).length := (List.getElem?_eq_some_iff.mp h3.hx).1
      refine ⟨(s.1 ++ [(y, c + 1)], s.2 ++ [y]), ?_, fun z hz => hp z (List.mem_cons_of_mem _ hz), ?_, fun z hz => ?_, ?_⟩
      · show Rt.bind (cond true _ _) _ = _
        rw [cond_true, at_]
        simp only [Rt.ok_bind]
        rw [ptR_new lo (by omega)]
        simp only [Rt.ok_bind]
        rw [apR_of (by omega)]
        rfl
      · simp only [keys, List.map_append, List.map_cons, List.map_nil] at h1 hj ⊢
        rw [List.drop_append_of_le_length (by omega), h1, List.cons_append, List.append_assoc]
      · simp only [keys, List.map_append, List.map_cons, List.map_nil] at hz
        rcases List.mem_append.mp hz with hz | hz
        · exact h2 z hz
        · rw [List.mem_singleton.mp hz]
          exact n2 y (hp y List.mem_cons_self)
      · have := h3.new (by rw [← lk_kv]; exact lo)
        simp only [keys, vals, List.map_append, List.map_cons, List.map_nil] at this ⊢
        exact this) ⟨fun _ h => h, hd, hS, hN⟩
  obtain ⟨_, h1, h2, h3⟩ := hI
  rw [e]
  refine ⟨s', rfl, ?_, h2, (List.getElem?_eq_some_iff.mp h3.hx).1, h3.end_⟩
  rw [← List.drop_drop, h1]
  rfl
theorem off_ok (h0 : S row) : ∃ kv, t__law_off row way = .ok kv ∧ Bf.Bfs N row (keys kv) (vals kv) ∧ (∀ y ∈ keys kv, S y) := by
  rw [off_eq, lineR_of (show [row].length ≤ 16777216 by simp)]
  have l0 : lineR ([] : List (List Int)) = .ok [] := lineR_of (by simp)
  simp only [Rt.ok_bind]
  obtain ⟨s', e, hI, hc⟩ := whileT_inv (σ := List (Row × Int) × List Row) (c := fun s => (Rt.bind (lineR ([] : List (List Int))) fun x => (.ok (!decide (s.2 = x))))) (f := offW way)
    (fun s => ∃ (j : Nat) (c : Int), j ≤ (keys s.1).length ∧ (keys s.1).drop j = s.2 ∧ (∀ y ∈ keys s.1, S y) ∧ Bf.Inv N row (keys s.1) (vals s.1) j c) (fun s => 901 - (s.1.length - s.2.length)) (fun s hI => by
      obtain ⟨j, c, h2, h3, h4, h5⟩ := hI
      obtain ⟨kv, front⟩ := s
      simp only at h2 h3 h4 h5 ⊢
      rw [l0, Rt.ok_bind]
      by_cases hf : front = []
      · left
        rw [decide_eq_true hf]
        rfl
      · right
        rw [decide_eq_false hf]
        refine ⟨rfl, ?_⟩
        unfold offW
        rw [l0]
        simp only [Rt.ok_bind]
        obtain ⟨s', e, hI⟩ := forT_inv (f := offG way) (fun r (s : List (Row × Int) × List Row) => ∃ (i : Nat) (c : Int), i + r.length = j + front.length ∧ i ≤ (keys s.1).length ∧ (keys s.1).drop i = r ++ s.2 ∧ (∀ y ∈ keys s.1, S y) ∧ Bf.Inv N row (keys s.1) (vals s.1) i c) front (kv, []) (fun x r s hI => by
          obtain ⟨i, c, g1, g2, g3, g4, g5⟩ := hI
          have hx : (keys s.1)[i]? = some x := by
            have := congrArg (·[0]?) g3
            simpa using this
          obtain ⟨c', _, hN⟩ := g5.now hx
          obtain ⟨s', e, k1, k2, k2', k3⟩ := offG_ok H hB x r i c' s.1 s.2 g3 g4 hN
          exact ⟨s', e, i + 1, c', by rw [List.length_cons] at g1; omega, k2', k1, k2, k3⟩) ⟨j, c, rfl, h2, by simpa using h3, h4, h5⟩
        obtain ⟨i, c', g1, g2, g3, g4, g5⟩ := hI
        rw [e]
        refine ⟨(s'.1, s'.2), rfl, ⟨i, c', g2, by simpa using g3, g4, g5⟩, ?_⟩
        simp only
        have e1 := congrArg List.length g3
        have e2 := congrArg List.length h3
        have hlen : (keys s'.1).length ≤ 900 := Nat.le_trans (H.bound _ g5.nd g4) hB
        simp only [keys, List.length_drop, List.length_map, List.nil_append, List.length_nil] at e1 e2 h2 g2 g1 hlen
        have : 0 < front.length := List.length_pos_iff.mpr hf
        omega) 1000 ([(row, 0)], [row]) ⟨0, 0, Nat.zero_le _, rfl, fun y hy => by rw [List.mem_singleton.mp hy]; exact h0, Bf.inv_start⟩ (by simp)
  rw [e]
  obtain ⟨j, c, h2, h3, h4, h5⟩ := hI
  rw [l0, Rt.ok_bind] at hc
  have hc' := Rt.ok.inj hc
  have hf : s'.2 = [] := by
    have := (Bool.not_eq_false' (b := decide (s'.2 = []))).mp hc'
    exact of_decide_eq_true this
  refine ⟨s'.1, rfl, h5.end_ ?_, h4⟩
  rw [hf] at h3
  exact List.drop_eq_nil_iff.mp h3
end
end G

set_option maxRecDepth 100000
set_option maxHeartbeats 4000000
/-! P73c: one deed by each way -/
namespace G
open PySem PySem.Spec PyProof.Rows L2 Ev Ty
def swp (xs : Row) (i j : Nat) : Row := (xs.set i (xs.getD j 0)).set j (xs.getD i 0)
def cutr (xs : Row) (i : Nat) : Row := xs.take i ++ xs.drop (i + 1)
def shf (xs : Row) (i j : Nat) : Row := (cutr xs i).take j ++ xs.getD i 0 :: (cutr xs i).drop j
theorem getD_of {xs : Row} {i : Nat} (h : i < xs.length) : xs.getD i 0 = xs[i] := by rw [List.getD_eq_getElem?_getD, List.getElem?_eq_getElem h]; rfl
theorem cutr_len {xs : Row} {i : Nat} (hi : i < xs.length) : (cutr xs i).length = xs.length - 1 := by
  rw [cutr, List.length_append, List.length_take, List.length_drop]; omega
theorem pie_ok {xs : Row} {i j : Nat} (hi : i < xs.length) (hj : j < xs.length) : t_put_in_each xs i j = .ok (swp xs i j) := by
  unfold t_put_in_each
  rw [Rt.ok_bind, ixR_nat hj, Rt.ok_bind, ixR_nat hi, Rt.ok_bind, setR_nat hi, Rt.ok_bind, setR_nat (by rw [List.length_set]; exact hj), Rt.ok_bind, swp, getD_of hi, getD_of hj]
theorem shift_ok {xs : Row} {i j : Nat} (hi : i < xs.length) (hj : j < xs.length) (hn : xs.length ≤ 1000) : t_shifted xs i j = .ok (shf xs i j) := by
  unfold t_shifted
  have h1 : Ev.cutD xs none (some (i : Int)) = xs.take i := cut_to _ (by omega)
  have h2 : Ev.cutD xs (some ((i : Int) + 1)) none = xs.drop (i + 1) := cut_from (i := i + 1) _ (by omega)
  rw [h1, h2, List.append_nil]
  have hc := cutr_len hi
  rw [cutr] at hc
  rw [lineR_of (by omega), Rt.ok_bind, ixR_nat hi]
  simp only [Rt.ok_bind]
  have h3 : Ev.cutD (xs.take i ++ xs.drop (i + 1)) none (some (j : Int)) = (xs.take i ++ xs.drop (i + 1)).take j := cut_to _ (by omega)
  have h4 : Ev.cutD (xs.take i ++ xs.drop (i + 1)) (some (j : Int)) none = (xs.take i ++ xs.drop (i + 1)).drop j := cut_from _ (by omega)
  rw [h3, h4, List.append_nil, lineR_of (by rw [List.length_append, List.length_cons, List.length_take, List.length_drop]; omega), shf, getD_of hi, cutr]
/-- two places of a row -/
theorem split2 {xs : Row} {i j : Nat} (h : i < j) (hj : j < xs.length) : ∃ p a m b q, xs = p ++ a :: (m ++ b :: q) ∧ p.length = i ∧ m.length = j - i - 1 := by
  refine ⟨xs.take i, xs[i], (xs.drop (i + 1)).take (j - i - 1), xs[j], xs.drop (j + 1), ?_, by rw [List.length_take]; omega, by rw [List.length_take, List.length_drop]; omega⟩
  have e1 : xs.drop i = xs[i] :: xs.drop (i + 1) := List.drop_eq_getElem_cons (by omega)
  have e2 : xs.drop j = xs[j] :: xs.drop (j + 1) := List.drop_eq_getElem_cons hj
  have e3 : (xs.drop (i + 1)).drop (j - i - 1) = xs.drop j := by rw [List.drop_drop]; congr 1; omega
  rw [← e2, ← e3, List.take_append_drop, ← e1, List.take_append_drop]
theorem swp_at (p : Row) (a : Int) (m : Row) (b : Int) (q : Row) : swp (p ++ a :: (m ++ b :: q)) p.length (p.length + 1 + m.length) = p ++ b :: (m ++ a :: q) := by
  unfold swp
  have g1 : (p ++ a :: (m ++ b :: q)).getD p.length 0 = a := by
    rw [List.getD_eq_getElem?_getD, List.getElem?_append_right (Nat.le_refl _), Nat.sub_self]
    rfl
  have g2 : (p ++ a :: (m ++ b :: q)).getD (p.length + 1 + m.length) 0 = b := by
    rw [List.getD_eq_getElem?_getD, List.getElem?_append_right (by omega), show p.length + 1 + m.length - p.length = m.length + 1 by omega, List.getElem?_cons_succ, List.getElem?_append_right (Nat.le_refl _), Nat.sub_self]
    rfl
  rw [g1, g2, List.set_append_right _ _ (Nat.le_refl _), Nat.sub_self, List.set_cons_zero, List.set_append_right _ _ (by omega), show p.length + 1 + m.length - p.length = m.length + 1 by omega, List.set_cons_succ, List.set_append_right _ _ (Nat.le_refl _), Nat.sub_self, List.set_cons_zero]
/-- as the law cuts it -/
def swp2 (xs : Row) (i j : Nat) : Row := xs.take i ++ [xs.getD j 0] ++ (xs.drop (i + 1)).take (j - (i + 1)) ++ [xs.getD i 0] ++ xs.drop (j + 1)
theorem swp2_eq {xs : Row} {i j : Nat} (h : i < j) (hj : j < xs.length) : swp2 xs i j = swp xs i j := by
  obtain ⟨p, a, m, b, q, rfl, rfl, hm⟩ := split2 h hj
  obtain rfl : j = p.length + 1 + m.length := by omega
  rw [swp_at]
  unfold swp2
  have g1 : (p ++ a :: (m ++ b :: q)).getD p.length 0 = a := by
    rw [List.getD_eq_getElem?_getD, List.getElem?_append_right (Nat.le_refl _), Nat.sub_self]
    rfl
  have g2 : (p ++ a :: (m ++ b :: q)).getD (p.length + 1 + m.length) 0 = b := by
    rw [List.getD_eq_getElem?_getD, List.getElem?_append_right (by omega), show p.length + 1 + m.length - p.length = m.length + 1 by omega, List.getElem?_cons_succ, List.getElem?_append_right (Nat.le_refl _), Nat.sub_self]
    rfl
  have d1 : (p ++ a :: (m ++ b :: q)).drop (p.length + 1) = m ++ b :: q := by
    rw [show p ++ a :: (m ++ b :: q) = (p ++ [a]) ++ (m ++ b :: q) by simp, List.drop_left' (by simp)]
  have d2 : (p ++ a :: (m ++ b :: q)).drop (p.length + 1 + m.length + 1) = q := by
    rw [show p ++ a :: (m ++ b :: q) = (p ++ a :: (m ++ [b])) ++ q by simp, List.drop_left' (by simp; omega)]
  rw [g1, g2, d1, d2, List.take_left, show p.length + 1 + m.length - (p.length + 1) = m.length by omega, List.take_left]
  simp
theorem swp_perm {xs : Row} {i j : Nat} (h : i < j) (hj : j < xs.length) : (swp xs i j).Perm xs := by
  obtain ⟨p, a, m, b, q, rfl, rfl, hm⟩ := split2 h hj
  obtain rfl : j = p.length + 1 + m.length := by omega
  rw [swp_at]
  refine List.Perm.append_left p ?_
  have h1 : (b :: (m ++ a :: q)).Perm (b :: a :: (m ++ q)) := List.Perm.cons b List.perm_middle
  have h2 : (a :: (m ++ b :: q)).Perm (a :: b :: (m ++ q)) := List.Perm.cons a List.perm_middle
  exact h1.trans ((List.Perm.swap a b _).trans h2.symm)
theorem cutr_perm {xs : Row} {i : Nat} (hi : i < xs.length) : (xs.getD i 0 :: cutr xs i).Perm xs := by
  have e1 : xs.drop i = xs[i] :: xs.drop (i + 1) := List.drop_eq_getElem_cons hi
  have e2 : xs = xs.take i ++ xs[i] :: xs.drop (i + 1) := by rw [← e1, List.take_append_drop]
  rw [getD_of hi, cutr]
  exact List.perm_middle.symm.trans (List.Perm.of_eq e2.symm)
theorem shf_perm {xs : Row} {i j : Nat} (hi : i < xs.length) : (shf xs i j).Perm xs := by
  rw [shf]
  refine List.perm_middle.trans ?_
  rw [List.take_append_drop]
  exact cutr_perm hi
theorem shf_self {xs : Row} {i : Nat} (hi : i < xs.length) : shf xs i i = xs := by
  have e1 : xs.drop i = xs[i] :: xs.drop (i + 1) := List.drop_eq_getElem_cons hi
  rw [shf, cutr, List.take_left' (by rw [List.length_take]; omega), List.drop_left' (by rw [List.length_take]; omega), getD_of hi, ← e1, List.take_append_drop]
/-! ### the program's pairs -/
inductive Way where
  | any | near | move | front
def Way.s : Way → Str
  | .any => "any"
  | .near => "near"
  | .move => "move"
  | .front => "front"
def ip (p : Nat × Nat) : Int × Int := ((p.1 : Int), (p.2 : Int))
def allP (n : Nat) : List (Nat × Nat) := (List.range n).flatMap fun i => ((List.range n).filter fun j => !decide (i = j)).map fun j => (i, j)
def PN (w : Way) (n : Nat) : List (Nat × Nat) := match w with
  | .any => (allP n).filter fun p => decide (p.1 < p.2)
  | .near => (List.range (n - 1)).map fun i => (i, i + 1)
  | .move => allP n
  | .front => (List.range (n - 1)).map fun i => (0, 1 + i)
theorem allP_len (n : Nat) : (allP n).length ≤ n * n := by
  unfold allP
  rw [List.length_flatMap]
  have : ∀ (l : List Nat), ((l.map fun i => (((List.range n).filter fun j => !decide (i = j)).map fun j => (i, j)).length).sum) ≤ l.length * n := by
    intro l
    induction l with
    | nil => simp
    | cons x r ih =>
      rw [List.map_cons, List.sum_cons, List.length_cons, Nat.add_mul, List.length_map]
      have := List.length_filter_le (fun j => !decide (x = j)) (List.range n)
      rw [List.length_range] at this
      omega
  have := this (List.range n)
  rwa [List.length_range] at this
theorem pairs_ok (w : Way) {x : Row} (h0 : 0 < x.length) (hn : x.length ≤ 1000) : t_pairs_of x w.s = .ok ((PN w x.length).map ip) := by
  have hlast : (x.length : Int) - 1 = ((x.length - 1 : Nat) : Int) := by omega
  have sd : ∀ a b : Str, decide (a = b) = decide (a = b) := fun _ _ => rfl
  cases w with
  | near =>
    show t_pairs_of x ("near" : Str) = _
    unfold t_pairs_of
    simp only [Rt.ok_bind, hlast, decide_true, cond_true]
    rw [rngR1_of (by omega), Rt.ok_bind, lcT_map (g := fun x : Int => (x, x + 1)) _ (fun _ _ => rfl), Rt.ok_bind, lineR_of (by simp only [List.length_map, List.length_range]; omega)]
    simp only [PN, List.map_map]
    rfl
  | front =>
    show t_pairs_of x ("front" : Str) = _
    unfold t_pairs_of
    have c1 : decide (("front" : Str) = "near") = false := by decide
    have c2 : decide (("front" : Str) = "ring") = false := by decide
    have c3 : decide (("front" : Str) ∈ [(("front" : Str), ("flip" : Str)).1, (("front" : Str), ("flip" : Str)).2]) = true := by decide
    simp only [Rt.ok_bind, c1, c2, c3, cond_false, negB, cond_true]
    rw [show (1 : Int) = ((1 : Nat) : Int) from rfl, rngR2_of (by omega) (by omega), Rt.ok_bind, lcT_map (g := fun x : Int => ((0 : Int), x)) _ (fun _ _ => rfl), Rt.ok_bind, lineR_of (by simp only [List.length_map, List.length_range]; omega)]
    simp only [PN, List.map_map]
    rfl
  | move =>
    show t_pairs_of x ("move" : Str) = _
    unfold t_pairs_of
    have c1 : decide (("move" : Str) = "near") = false := by decide
    have c2 : decide (("move" : Str) = "ring") = false := by decide
    have c3 : decide (("move" : Str) ∈ [(("front" : Str), ("flip" : Str)).1, (("front" : Str), ("flip" : Str)).2]) = false := by decide
    simp only [Rt.ok_bind, c1, c2, c3, cond_false, negB, decide_true, cond_true]
    rw [rngR1_of (by omega)]
    simp only [Rt.ok_bind]
    rw [lcT2_ok (es := fun _ => (List.range x.length).map fun (i : Nat) => (i : Int)) (P := fun a b => !decide (a = b)) (g := fun a b => (a, b)) _ (fun _ _ => rfl) (fun _ _ => rfl) (fun _ _ _ _ => rfl) (fun _ _ _ _ _ => rfl), Rt.ok_bind]
    have e : (((List.range x.length).map fun (i : Nat) => (i : Int)).flatMap fun a => (((List.range x.length).map fun (i : Nat) => (i : Int)).filter fun b => !decide (a = b)).map fun b => (a, b)) = (allP x.length).map ip := by
      unfold allP
      rw [List.flatMap_map, List.map_flatMap]
      congr 1
      funext i
      rw [List.filter_map, List.map_map, List.map_map]
      have : ((fun b : Int => !decide ((i : Int) = b)) ∘ fun (j : Nat) => (j : Int)) = fun j => !decide (i = j) := by
        funext j
        simp only [Function.comp]
        congr 1
        exact decide_eq_decide.mpr (by omega)
      rw [this]
      rfl
    rw [e, lineR_of (by rw [List.length_map]; exact Nat.le_trans (allP_len _) (Nat.le_trans (Nat.mul_le_mul hn hn) (by decide))), Rt.ok_bind]
    rfl
  | any =>
    show t_pairs_of x ("any" : Str) = _
    unfold t_pairs_of
    have c1 : decide (("any" : Str) = "near") = false := by decide
    have c2 : decide (("any" : Str) = "ring") = false := by decide
    have c3 : decide (("any" : Str) ∈ [(("front" : Str), ("flip" : Str)).1, (("front" : Str), ("flip" : Str)).2]) = false := by decide
    have c4 : decide (("any" : Str) = "move") = false := by decide
    simp only [Rt.ok_bind, c1, c2, c3, c4, cond_false, negB]
    rw [rngR1_of (by omega)]
    simp only [Rt.ok_bind]
    rw [lcT2_ok (es := fun _ => (List.range x.length).map fun (i : Nat) => (i : Int)) (P := fun a b => !decide (a = b)) (g := fun a b => (a, b)) _ (fun _ _ => rfl) (fun _ _ => rfl) (fun _ _ _ _ => rfl) (fun _ _ _ _ _ => rfl), Rt.ok_bind]
    have e : (((List.range x.length).map fun (i : Nat) => (i : Int)).flatMap fun a => (((List.range x.length).map fun (i : Nat) => (i : Int)).filter fun b => !decide (a = b)).map fun b => (a, b)) = (allP x.length).map ip := by
      unfold allP
      rw [List.flatMap_map, List.map_flatMap]
      congr 1
      funext i
      rw [List.filter_map, List.map_map, List.map_map]
      have : ((fun b : Int => !decide ((i : Int) = b)) ∘ fun (j : Nat) => (j : Int)) = fun j => !decide (i = j) := by
        funext j
        simp only [Function.comp]
        congr 1
        exact decide_eq_decide.mpr (by omega)
      rw [this]
      rfl
    have hl : (allP x.length).length ≤ 1000000 := Nat.le_trans (allP_len _) (Nat.le_trans (Nat.mul_le_mul hn hn) (by decide))
    rw [e, lineR_of (by rw [List.length_map]; omega), Rt.ok_bind, lcT_ok (P := fun p : Int × Int => decide (p.1 < p.2)) (g := fun p => (p.1, p.2)) _ (fun _ _ => rfl) (fun _ _ _ => rfl), Rt.ok_bind]
    have e2 : ((((allP x.length).map ip).filter fun p => decide (p.1 < p.2)).map fun p => (p.1, p.2)) = (PN .any x.length).map ip := by
      unfold PN
      rw [show (fun p : Int × Int => (p.1, p.2)) = id from rfl, List.map_id, List.filter_map]
      congr 1
      congr 1
      funext p
      simp only [Function.comp, ip]
      exact decide_eq_decide.mpr (by omega)
    rw [e2, lineR_of (by
      rw [List.length_map, PN]
      exact Nat.le_trans (List.length_filter_le _ _) (by omega))]
def DN (w : Way) (x : Row) (p : Nat × Nat) : Row := match w with
  | .any => swp x p.1 p.2
  | .near => swp x p.1 p.2
  | .move => shf x p.1 p.2
  | .front => shf x p.2 0
theorem mem_allP {n : Nat} {p : Nat × Nat} : p ∈ allP n ↔ p.1 < n ∧ p.2 < n ∧ p.1 ≠ p.2 := by
  unfold allP
  simp only [List.mem_flatMap, List.mem_range, List.mem_map, List.mem_filter]
  constructor
  · rintro ⟨i, hi, j, ⟨hj, hne⟩, rfl⟩
    exact ⟨hi, hj, by simpa using hne⟩
  · rintro ⟨h1, h2, h3⟩
    exact ⟨p.1, h1, p.2, ⟨h2, by simpa using h3⟩, rfl⟩
theorem done_ok (w : Way) {x : Row} (hn : x.length ≤ 1000) {p : Nat × Nat} (hp : p ∈ PN w x.length) : t_done_by x w.s (ip p) = .ok (DN w x p) ∧ (DN w x p).Perm x := by
  cases w with
  | any =>
    show t_done_by x ("any" : Str) (ip p) = _ ∧ _
    unfold t_done_by
    have c1 : decide (("any" : Str) ∈ (["stretch", "flip"] : List Str)) = false := by decide
    have c2 : decide (("any" : Str) = "move") = false := by decide
    have c3 : decide (("any" : Str) = "front") = false := by decide
    simp only [c1, c2, c3, negB, cond_false]
    rw [PN, List.mem_filter, mem_allP] at hp
    have hlt : p.1 < p.2 := by simpa using hp.2
    exact ⟨pie_ok hp.1.1 hp.1.2.1, swp_perm hlt hp.1.2.1⟩
  | near =>
    show t_done_by x ("near" : Str) (ip p) = _ ∧ _
    unfold t_done_by
    have c1 : decide (("near" : Str) ∈ (["stretch", "flip"] : List Str)) = false := by decide
    have c2 : decide (("near" : Str) = "move") = false := by decide
    have c3 : decide (("near" : Str) = "front") = false := by decide
    simp only [c1, c2, c3, negB, cond_false]
    simp only [PN, List.mem_map, List.mem_range] at hp
    obtain ⟨i, hi, rfl⟩ := hp
    exact ⟨pie_ok (by omega) (by omega), swp_perm (Nat.lt_succ_self _) (by omega)⟩
  | move =>
    show t_done_by x ("move" : Str) (ip p) = _ ∧ _
    unfold t_done_by
    have c1 : decide (("move" : Str) ∈ (["stretch", "flip"] : List Str)) = false := by decide
    simp only [c1, negB, cond_false, decide_true, cond_true]
    rw [PN, mem_allP] at hp
    exact ⟨shift_ok hp.1 hp.2.1 hn, shf_perm hp.1⟩
  | front =>
    show t_done_by x ("front" : Str) (ip p) = _ ∧ _
    unfold t_done_by
    have c1 : decide (("front" : Str) ∈ (["stretch", "flip"] : List Str)) = false := by decide
    have c2 : decide (("front" : Str) = "move") = false := by decide
    simp only [c1, c2, negB, cond_false, decide_true, cond_true]
    simp only [PN, List.mem_map, List.mem_range] at hp
    obtain ⟨i, hi, rfl⟩ := hp
    exact ⟨shift_ok (i := 1 + i) (j := 0) (by omega) (by omega) hn, shf_perm (by simp only; omega)⟩
/-- the rows of the same things -/
theorem steps_ok (w : Way) {n : Nat} (h0 : 0 < n) (hn : n ≤ 4) (row : Row) (hr : row.length = n) (hk : ∀ v ∈ row, 0 ≤ v ∧ v < 4) : Steps (fun x => x.Perm row) w.s (fun x => (PN w x.length).map ip) (fun x p => DN w x (p.1.toNat, p.2.toNat)) 256 where
  pairs x hx := pairs_ok w (by rw [hx.length_eq]; omega) (by rw [hx.length_eq]; omega)
  done x hx p hp := by
    obtain ⟨q, hq, rfl⟩ := List.mem_map.mp hp
    have := done_ok w (x := x) (by rw [hx.length_eq]; omega) hq
    refine ⟨?_, this.2.trans hx⟩
    simp only [ip, Int.toNat_natCast]
    exact this.1
  bound L nd h := by
    have := Cnt.rows_le (b := 4) (n := n) (by decide) L nd fun xs hx => ⟨(h xs hx).length_eq.trans hr, fun v hv => hk v ((h xs hx).subset hv)⟩
    exact Nat.le_trans this (Nat.pow_le_pow_right (by decide) hn : 4 ^ n ≤ 4 ^ 4)
end G

set_option maxRecDepth 100000
set_option maxHeartbeats 4000000
/-! P73d: the law's steps, and that both walks find the same -/
namespace Ty
theorem forT_app {α β : Type} {f : List β → α → Rt (List β)} {g : α → List β} {M : Nat} : ∀ (xs : List α) (s : List β), (∀ x ∈ xs, ∀ s, s.length + (g x).length ≤ M → f s x = .ok (s ++ g x)) → s.length + (xs.flatMap g).length ≤ M → forT xs s f = .ok (s ++ xs.flatMap g)
  | [], s, _, _ => by rw [List.flatMap_nil, List.append_nil]; rfl
  | x :: r, s, h, hl => by
    rw [List.flatMap_cons, List.length_append] at hl
    rw [forT, h x List.mem_cons_self s (by omega), Rt.ok_bind, forT_app r _ (fun y hy => h y (List.mem_cons_of_mem _ hy)) (by rw [List.length_append]; omega), List.flatMap_cons, List.append_assoc]
theorem flatMap_le {α β : Type} {g : α → List β} {k : Nat} : ∀ xs : List α, (∀ x ∈ xs, (g x).length ≤ k) → (xs.flatMap g).length ≤ xs.length * k
  | [], _ => by simp
  | x :: r, h => by
    rw [List.flatMap_cons, List.length_append, List.length_cons, Nat.add_mul]
    have h1 := h x List.mem_cons_self
    have h2 := flatMap_le r fun y hy => h y (List.mem_cons_of_mem _ hy)
    omega
end Ty
namespace G
open PySem PySem.Spec PyProof.Rows L2 Ev Ty
def lstep (w : Way) (x : Row) (i j : Nat) : List Row := match w with
  | .move => [shf x i j]
  | .front => if j = 0 then [shf x i j] else []
  | .any => if i < j then [swp x i j] else []
  | .near => if j = i + 1 then [swp x i j] else []
def LN (w : Way) (x : Row) : List Row := (List.range x.length).flatMap fun i => (List.range x.length).flatMap fun j => lstep w x i j
theorem lstep_len (w : Way) (x : Row) (i j : Nat) : (lstep w x i j).length ≤ 1 := by
  unfold lstep
  cases w with
  | move => exact Nat.le_refl _
  | front => by_cases h : j = 0 <;> simp [h]
  | any => by_cases h : i < j <;> simp [h]
  | near => by_cases h : j = i + 1 <;> simp [h]
/-- what the law does at i, j -/
def lawF (x : Row) (way : Str) (n : Int) (i : Int) (s : List Row) (j : Int) : Rt (List Row) :=
  (Rt.bind (Rt.bind (cond (decide (way = ("move" : Str))) (.ok true) (cond (decide (way = ("front" : Str))) (.ok (decide (j = (0 : Int)))) (.ok false))) fun k_382 => cond k_382 (Rt.bind (catR (Ev.cutD x none (some i)) (Ev.cutD x (some (i + (1 : Int))) none)) fun rest_297 => (Rt.bind (Rt.bind (Rt.bind (Rt.bind (Rt.bind (Rt.bind (ixR x i) fun x_304 => .ok (x_304 :: ([] : List Int))) lineR) fun x_307 => catR (Ev.cutD rest_297 none (some j)) x_307) fun x_312 => catR x_312 (Ev.cutD rest_297 (some j) none)) fun x_315 => apR s x_315) fun found_314 => (.ok found_314))) (Rt.bind (Rt.bind (cond (decide (i < j)) (cond (decide (way = ("any" : Str))) (.ok true) (Rt.bind (cond (decide (way = ("near" : Str))) (.ok (decide (j = (i + (1 : Int))))) (.ok false)) fun k_339 => cond k_339 (.ok true) (cond (decide (way = ("ring" : Str))) (.ok (negB false (decide ((j - i) ∈ [((1 : Int), n - (1 : Int)).1, ((1 : Int), n - (1 : Int)).2])))) (.ok false)))) (.ok false)) fun k_381 => cond k_381 (Rt.bind (Rt.bind (Rt.bind (Rt.bind (Rt.bind (Rt.bind (Rt.bind (Rt.bind (ixR x j) fun x_348 => .ok (x_348 :: ([] : List Int))) lineR) fun x_351 => catR (Ev.cutD x none (some i)) x_351) fun x_359 => catR x_359 (Ev.cutD x (some (i + (1 : Int))) (some j))) fun x_365 => (Rt.bind (Rt.bind (Rt.bind (ixR x i) fun x_363 => .ok (x_363 :: ([] : List Int))) lineR) fun x_366 => catR x_365 x_366)) fun x_373 => catR x_373 (Ev.cutD x (some (j + (1 : Int))) none)) fun x_376 => apR s x_376) fun found_375 => (.ok found_375)) (.ok s)) fun s_377 => (.ok s_377))) fun s_378 => (.ok s_378))
theorem lsteps_eq (x : Row) (way : Str) : t__law_steps x way = (Rt.bind (Rt.bind (lineR ([] : List (List Int))) fun x_268 => .ok (x_268, (x.length : Int))) fun s_270 => (Rt.bind (Rt.bind (rngR1 s_270.2) fun xs => forT xs s_270.1 (fun s i => (Rt.bind (Rt.bind (rngR1 s_270.2) fun xs => forT xs s (lawF x way s_270.2 i)) fun s_379 => (.ok s_379)))) fun s_380 => (.ok s_380))) := rfl
section
variable {x : Row} {i j : Nat} (hi : i < x.length) (hj : j < x.length) (hn : x.length ≤ 1000) {s : List Row} (hs : s.length < 16777216)
include hi hj hn hs
theorem law_move : (Rt.bind (catR (Ev.cutD x none (some (i : Int))) (Ev.cutD x (some ((i : Int) + (1 : Int))) none)) fun rest_297 => (Rt.bind (Rt.bind (Rt.bind (Rt.bind (Rt.bind (Rt.bind (ixR x (i : Int)) fun x_304 => .ok (x_304 :: ([] : List Int))) lineR) fun x_307 => catR (Ev.cutD rest_297 none (some (j : Int))) x_307) fun x_312 => catR x_312 (Ev.cutD rest_297 (some (j : Int)) none)) fun x_315 => apR s x_315) fun found_314 => (.ok found_314))) = .ok (s ++ [shf x i j]) := by
  have h1 : Ev.cutD x none (some (i : Int)) = x.take i := cut_to _ (by omega)
  have h2 : Ev.cutD x (some ((i : Int) + 1)) none = x.drop (i + 1) := cut_from (i := i + 1) _ (by omega)
  have hc := cutr_len hi
  rw [cutr, List.length_append] at hc
  rw [h1, h2, catR_of (by omega)]
  have hc' : (x.take i ++ x.drop (i + 1)).length = x.length - 1 := by rw [List.length_append]; exact hc
  have h3 : Ev.cutD (x.take i ++ x.drop (i + 1)) none (some (j : Int)) = (x.take i ++ x.drop (i + 1)).take j := cut_to _ (by omega)
  have h4 : Ev.cutD (x.take i ++ x.drop (i + 1)) (some (j : Int)) none = (x.take i ++ x.drop (i + 1)).drop j := cut_from _ (by omega)
  simp only [Rt.ok_bind]
  rw [h3, h4, ixR_nat hi]
  simp only [Rt.ok_bind]
  rw [lineR_of (by simp)]
  simp only [Rt.ok_bind]
  rw [catR_of (by rw [List.length_take, List.length_singleton]; omega)]
  simp only [Rt.ok_bind]
  rw [catR_of (by rw [List.length_append, List.length_take, List.length_singleton, List.length_drop]; omega)]
  simp only [Rt.ok_bind]
  rw [apR_of hs]
  simp only [Rt.ok_bind]
  rw [shf, getD_of hi, cutr, List.append_assoc]
  rfl
theorem law_swap (hij : i < j) : (Rt.bind (Rt.bind (Rt.bind (Rt.bind (Rt.bind (Rt.bind (Rt.bind (Rt.bind (ixR x (j : Int)) fun x_348 => .ok (x_348 :: ([] : List Int))) lineR) fun x_351 => catR (Ev.cutD x none (some (i : Int))) x_351) fun x_359 => catR x_359 (Ev.cutD x (some ((i : Int) + (1 : Int))) (some (j : Int)))) fun x_365 => (Rt.bind (Rt.bind (Rt.bind (ixR x (i : Int)) fun x_363 => .ok (x_363 :: ([] : List Int))) lineR) fun x_366 => catR x_365 x_366)) fun x_373 => catR x_373 (Ev.cutD x (some ((j : Int) + (1 : Int))) none)) fun x_376 => apR s x_376) fun found_375 => (.ok found_375)) = .ok (s ++ [swp x i j]) := by
  have h1 : Ev.cutD x none (some (i : Int)) = x.take i := cut_to _ (by omega)
  have h2 : Ev.cutD x (some ((i : Int) + 1)) (some (j : Int)) = (x.drop (i + 1)).take (j - (i + 1)) := cut_mid (i := i + 1) _ (by omega) (by omega)
  have h3 : Ev.cutD x (some ((j : Int) + 1)) none = x.drop (j + 1) := cut_from (i := j + 1) _ (by omega)
  rw [h1, h2, h3, ixR_nat hi, ixR_nat hj]
  simp only [Rt.ok_bind]
  rw [lineR_of (by simp), lineR_of (by simp)]
  simp only [Rt.ok_bind]
  rw [catR_of (by rw [List.length_take, List.length_singleton]; omega)]
  simp only [Rt.ok_bind]
  rw [catR_of (by rw [List.length_append, List.length_take, List.length_singleton, List.length_take, List.length_drop]; omega)]
  simp only [Rt.ok_bind]
  rw [catR_of (by rw [List.length_append, List.length_append, List.length_take, List.length_singleton, List.length_take, List.length_drop, List.length_singleton]; omega)]
  simp only [Rt.ok_bind]
  rw [catR_of (by rw [List.length_append, List.length_append, List.length_append, List.length_take, List.length_singleton, List.length_take, List.length_drop, List.length_singleton, List.length_drop]; omega)]
  simp only [Rt.ok_bind]
  rw [apR_of hs]
  simp only [Rt.ok_bind]
  rw [← swp2_eq hij hj, swp2, getD_of hi, getD_of hj]
theorem lawF_ok (w : Way) : lawF x w.s x.length i s j = .ok (s ++ lstep w x i j) := by
  cases w with
  | move =>
    show lawF x ("move" : Str) x.length i s j = _
    unfold lawF
    simp only [decide_true, cond_true, Rt.ok_bind]
    rw [law_move hi hj hn hs]
    rfl
  | front =>
    show lawF x ("front" : Str) x.length i s j = _
    unfold lawF
    have c1 : decide (("front" : Str) = "move") = false := by decide
    have c2 : decide (("front" : Str) = "any") = false := by decide
    have c3 : decide (("front" : Str) = "near") = false := by decide
    have c4 : decide (("front" : Str) = "ring") = false := by decide
    simp only [c1, c2, c3, c4, decide_true, cond_true, cond_false, Rt.ok_bind]
    by_cases h : j = 0
    · have e : decide ((j : Int) = 0) = true := decide_eq_true (by omega)
      rw [e, cond_true, law_move hi hj hn hs, lstep, if_pos h]
      rfl
    · have e : decide ((j : Int) = 0) = false := decide_eq_false (by omega)
      rw [e, cond_false, lstep, if_neg h, List.append_nil]
      cases decide ((i : Int) < j) <;> rfl
  | any =>
    show lawF x ("any" : Str) x.length i s j = _
    unfold lawF
    have c1 : decide (("any" : Str) = "move") = false := by decide
    have c2 : decide (("any" : Str) = "front") = false := by decide
    simp only [c1, c2, decide_true, cond_true, cond_false, Rt.ok_bind]
    by_cases h : i < j
    · have e : decide ((i : Int) < j) = true := decide_eq_true (by omega)
      simp only [e, cond_true, Rt.ok_bind]
      rw [law_swap hi hj hn hs h, lstep, if_pos h]
      rfl
    · have e : decide ((i : Int) < j) = false := decide_eq_false (by omega)
      simp only [e, cond_false, Rt.ok_bind]
      rw [lstep, if_neg h, List.append_nil]
  | near =>
    show lawF x ("near" : Str) x.length i s j = _
    unfold lawF
    have c1 : decide (("near" : Str) = "move") = false := by decide
    have c2 : decide (("near" : Str) = "front") = false := by decide
    have c3 : decide (("near" : Str) = "any") = false := by decide
    have c4 : decide (("near" : Str) = "ring") = false := by decide
    simp only [c1, c2, c3, c4, decide_true, cond_true, cond_false, Rt.ok_bind]
    by_cases h : j = i + 1
    · have e : decide ((i : Int) < j) = true := decide_eq_true (by omega)
      have e2 : decide ((j : Int) = (i : Int) + 1) = true := decide_eq_true (by omega)
      simp only [e, e2, cond_true, Rt.ok_bind]
      rw [law_swap hi hj hn hs (by omega), lstep, if_pos h]
      rfl
    · have e2 : decide ((j : Int) = (i : Int) + 1) = false := decide_eq_false (by omega)
      simp only [e2, cond_false, Rt.ok_bind]
      rw [lstep, if_neg h, List.append_nil]
      cases decide ((i : Int) < j) <;> rfl
end
theorem lsteps_ok (w : Way) {x : Row} (hn : x.length ≤ 1000) : t__law_steps x w.s = .ok (LN w x) := by
  rw [lsteps_eq, lineR_of (by simp)]
  simp only [Rt.ok_bind]
  rw [rngR1_of (by omega)]
  simp only [Rt.ok_bind]
  have inner : ∀ i : Nat, i < x.length → ∀ s : List Row, s.length + ((List.range x.length).flatMap fun j => lstep w x i j).length ≤ 2000000 → forT ((List.range x.length).map fun (j : Nat) => (j : Int)) s (lawF x w.s x.length i) = .ok (s ++ (List.range x.length).flatMap fun j => lstep w x i j) := by
    intro i hi s hl
    have := forT_app (M := 16000000) (f := lawF x w.s x.length i) (g := fun j : Int => lstep w x i j.toNat) ((List.range x.length).map fun (j : Nat) => (j : Int)) s (fun j hj s hs => by
      obtain ⟨k, hk, rfl⟩ := List.mem_map.mp hj
      rw [lawF_ok hi (List.mem_range.mp hk) hn (by omega) w, Int.toNat_natCast]) (by
        rw [List.flatMap_map]
        simp only [Int.toNat_natCast]
        omega)
    rw [this, List.flatMap_map]
    simp only [Int.toNat_natCast]
  have hlen : ∀ i, ((List.range x.length).flatMap fun j => lstep w x i j).length ≤ 1000 := fun i => by
    have := flatMap_le (g := fun j => lstep w x i j) (k := 1) (List.range x.length) fun j _ => lstep_len w x i j
    rw [List.length_range] at this
    omega
  have := forT_app (M := 2000000) (f := fun s i => (Rt.bind (forT ((List.range x.length).map fun (j : Nat) => (j : Int)) s (lawF x w.s x.length i)) fun s_379 => (.ok s_379))) (g := fun i : Int => (List.range x.length).flatMap fun j => lstep w x i.toNat j) ((List.range x.length).map fun (j : Nat) => (j : Int)) [] (fun i hi s hs => by
    obtain ⟨k, hk, rfl⟩ := List.mem_map.mp hi
    rw [Int.toNat_natCast] at hs ⊢
    rw [inner k (List.mem_range.mp hk) s hs]
    rfl) (by
      rw [List.flatMap_map]
      simp only [Int.toNat_natCast, List.length_nil]
      have := flatMap_le (g := fun i => (List.range x.length).flatMap fun j => lstep w x i j) (k := 1000) (List.range x.length) fun i _ => hlen i
      rw [List.length_range] at this
      have : x.length * 1000 ≤ 1000 * 1000 := Nat.mul_le_mul_right _ hn
      omega)
  rw [this, List.flatMap_map]
  simp only [Int.toNat_natCast, List.nil_append, Rt.ok_bind]
  rfl
theorem mem_LN {w : Way} {x y : Row} : y ∈ LN w x ↔ ∃ i j, i < x.length ∧ j < x.length ∧ y ∈ lstep w x i j := by
  unfold LN
  simp only [List.mem_flatMap, List.mem_range]
  constructor
  · rintro ⟨i, hi, j, hj, h⟩
    exact ⟨i, j, hi, hj, h⟩
  · rintro ⟨i, j, hi, hj, h⟩
    exact ⟨i, hi, j, hj, h⟩
def PNi (w : Way) (x : Row) : List (Int × Int) := (PN w x.length).map ip
def DNi (w : Way) (x : Row) (p : Int × Int) : Row := DN w x (p.1.toNat, p.2.toNat)
theorem mem_NB {w : Way} {x y : Row} : y ∈ NB (PNi w) (DNi w) x ↔ ∃ p ∈ PN w x.length, y = DN w x p := by
  unfold NB PNi
  rw [List.map_map, List.mem_map]
  constructor
  · rintro ⟨p, hp, rfl⟩
    exact ⟨p, hp, by simp only [Function.comp, DNi, ip, Int.toNat_natCast]⟩
  · rintro ⟨p, hp, rfl⟩
    exact ⟨p, hp, by simp only [Function.comp, DNi, ip, Int.toNat_natCast]⟩
/-- both walk the same steps -/
theorem same_steps (w : Way) (x y : Row) (ne : y ≠ x) : y ∈ NB (PNi w) (DNi w) x ↔ y ∈ LN w x := by
  rw [mem_NB, mem_LN]
  cases w with
  | any =>
    constructor
    · rintro ⟨p, hp, rfl⟩
      rw [PN, List.mem_filter, mem_allP] at hp
      have hlt : p.1 < p.2 := by simpa using hp.2
      exact ⟨p.1, p.2, hp.1.1, hp.1.2.1, by rw [lstep, if_pos hlt]; exact List.mem_singleton.mpr rfl⟩
    · rintro ⟨i, j, hi, hj, h⟩
      rw [lstep] at h
      by_cases hij : i < j
      · rw [if_pos hij] at h
        exact ⟨(i, j), by rw [PN, List.mem_filter, mem_allP]; exact ⟨⟨hi, hj, Nat.ne_of_lt hij⟩, decide_eq_true hij⟩, List.mem_singleton.mp h⟩
      · rw [if_neg hij] at h
        cases h
  | near =>
    constructor
    · rintro ⟨p, hp, rfl⟩
      simp only [PN, List.mem_map, List.mem_range] at hp
      obtain ⟨i, hi, rfl⟩ := hp
      exact ⟨i, i + 1, by omega, by omega, by rw [lstep, if_pos rfl]; exact List.mem_singleton.mpr rfl⟩
    · rintro ⟨i, j, hi, hj, h⟩
      rw [lstep] at h
      by_cases hij : j = i + 1
      · rw [if_pos hij] at h
        refine ⟨(i, j), ?_, List.mem_singleton.mp h⟩
        simp only [PN, List.mem_map, List.mem_range]
        exact ⟨i, by omega, by rw [hij]⟩
      · rw [if_neg hij] at h
        cases h
  | move =>
    constructor
    · rintro ⟨p, hp, rfl⟩
      rw [PN, mem_allP] at hp
      exact ⟨p.1, p.2, hp.1, hp.2.1, List.mem_singleton.mpr rfl⟩
    · rintro ⟨i, j, hi, hj, h⟩
      rw [lstep] at h
      have h := List.mem_singleton.mp h
      by_cases e : i = j
      · subst e
        exact absurd (h.trans (shf_self hi)) ne
      · exact ⟨(i, j), by rw [PN, mem_allP]; exact ⟨hi, hj, e⟩, h⟩
  | front =>
    constructor
    · rintro ⟨p, hp, rfl⟩
      simp only [PN, List.mem_map, List.mem_range] at hp
      obtain ⟨i, hi, rfl⟩ := hp
      exact ⟨1 + i, 0, by omega, by omega, by rw [lstep, if_pos rfl]; exact List.mem_singleton.mpr rfl⟩
    · rintro ⟨i, j, hi, hj, h⟩
      rw [lstep] at h
      by_cases e : j = 0
      · rw [if_pos e] at h
        subst e
        have h := List.mem_singleton.mp h
        cases i with
        | zero => exact absurd (h.trans (shf_self hi)) ne
        | succ i =>
          refine ⟨(0, 1 + i), ?_, by rw [h, Nat.add_comm]; rfl⟩
          simp only [PN, List.mem_map, List.mem_range]
          exact ⟨i, by omega, rfl⟩
      · rw [if_neg e] at h
        cases h
theorem LN_perm (w : Way) {x y : Row} (h : y ∈ LN w x) : y.Perm x := by
  by_cases e : y = x
  · rw [e]
  · obtain ⟨p, hp, rfl⟩ := mem_NB.mp ((same_steps w x y e).mpr h)
    cases w with
    | any =>
      rw [PN, List.mem_filter, mem_allP] at hp
      exact swp_perm (by simpa using hp.2) hp.1.2.1
    | near =>
      simp only [PN, List.mem_map, List.mem_range] at hp
      obtain ⟨i, hi, rfl⟩ := hp
      exact swp_perm (Nat.lt_succ_self _) (by simp only; omega)
    | move =>
      rw [PN, mem_allP] at hp
      exact shf_perm hp.1
    | front =>
      simp only [PN, List.mem_map, List.mem_range] at hp
      obtain ⟨i, hi, rfl⟩ := hp
      exact shf_perm (by simp only; omega)
end G

set_option maxRecDepth 100000
set_option maxHeartbeats 4000000
/-! P73e: all rows of the same things are come to -/
namespace G
open PySem PySem.Spec PyProof.Rows L2 Ev Ty
abbrev NW (w : Way) : Row → List Row := NB (PNi w) (DNi w)
theorem near_swap (p : Row) (a b : Int) (q : Row) : p ++ b :: a :: q ∈ NW .near (p ++ a :: b :: q) := by
  rw [mem_NB]
  refine ⟨(p.length, p.length + 1), ?_, ?_⟩
  · simp only [PN, List.mem_map, List.mem_range]
    exact ⟨p.length, by rw [List.length_append, List.length_cons, List.length_cons]; omega, rfl⟩
  · exact (swp_at p a [] b q).symm
theorem any_swap (p : Row) (a b : Int) (q : Row) : p ++ b :: a :: q ∈ NW .any (p ++ a :: b :: q) := by
  rw [mem_NB]
  refine ⟨(p.length, p.length + 1), ?_, ?_⟩
  · rw [PN, List.mem_filter, mem_allP, List.length_append, List.length_cons, List.length_cons]
    exact ⟨⟨by omega, by omega, by simp⟩, by simp⟩
  · exact (swp_at p a [] b q).symm
theorem move_swap (p : Row) (a b : Int) (q : Row) : p ++ b :: a :: q ∈ NW .move (p ++ a :: b :: q) := by
  rw [mem_NB]
  refine ⟨(p.length, p.length + 1), ?_, ?_⟩
  · rw [PN, mem_allP, List.length_append, List.length_cons, List.length_cons]
    exact ⟨by omega, by omega, by simp⟩
  · show _ = shf (p ++ a :: b :: q) p.length (p.length + 1)
    have c : cutr (p ++ a :: b :: q) p.length = p ++ b :: q := by
      rw [cutr, List.take_left, show p ++ a :: b :: q = (p ++ [a]) ++ b :: q by simp, List.drop_left' (by simp)]
    have g : (p ++ a :: b :: q).getD p.length 0 = a := by
      rw [List.getD_eq_getElem?_getD, List.getElem?_append_right (Nat.le_refl _), Nat.sub_self]
      rfl
    rw [shf, c, g, show p ++ b :: q = (p ++ [b]) ++ q by simp, List.take_left' (by simp), List.drop_left' (by simp)]
    simp
theorem reach_ctx {N : Row → List Row} (sw : ∀ (p : Row) (a b : Int) (q : Row), p ++ b :: a :: q ∈ N (p ++ a :: b :: q)) {x y : Row} (h : x.Perm y) : ∀ p : Row, Bf.Reach N (p ++ x) (p ++ y) := by
  induction h with
  | nil => exact fun p => .here
  | cons a _ ih =>
    intro p
    have := ih (p ++ [a])
    simpa using this
  | swap a b l => exact fun p => .step .here (sw p b a l)
  | trans _ _ ih1 ih2 => exact fun p => (ih1 p).trans (ih2 p)
theorem front_step (s : Row) (t : Row) (v : Int) (hv : v ∈ t) : v :: (s ++ t.erase v) ∈ NW .front (s ++ t) ∨ v :: (s ++ t.erase v) = s ++ t := by
  obtain ⟨t1, t2, h0, rfl, h1⟩ := List.exists_erase_eq hv
  rw [h1]
  have e : shf (s ++ (t1 ++ v :: t2)) (s ++ t1).length 0 = v :: (s ++ (t1 ++ t2)) := by
    have c : cutr (s ++ (t1 ++ v :: t2)) (s ++ t1).length = s ++ (t1 ++ t2) := by
      rw [cutr, ← List.append_assoc, List.take_left, show (s ++ t1) ++ v :: t2 = (s ++ t1 ++ [v]) ++ t2 by simp, List.drop_left' (by simp; omega), List.append_assoc]
    have g : (s ++ (t1 ++ v :: t2)).getD (s ++ t1).length 0 = v := by
      rw [← List.append_assoc, List.getD_eq_getElem?_getD, List.getElem?_append_right (Nat.le_refl _), Nat.sub_self]
      rfl
    rw [shf, c, g]
    rfl
  cases hz : (s ++ t1).length with
  | zero =>
    right
    have : s ++ t1 = [] := List.length_eq_zero_iff.mp hz
    obtain ⟨rfl, rfl⟩ := List.append_eq_nil_iff.mp this
    rfl
  | succ k =>
    left
    rw [mem_NB]
    refine ⟨(0, 1 + k), ?_, ?_⟩
    · simp only [PN, List.mem_map, List.mem_range]
      refine ⟨k, ?_, rfl⟩
      rw [List.length_append] at hz
      rw [List.length_append, List.length_append, List.length_cons]
      omega
    · rw [DN, ← e, hz, Nat.add_comm]
theorem front_reach : ∀ (n : Nat) (t s r : Row), t.length = n → r.Perm t → Bf.Reach (NW .front) (s ++ r) (t ++ s)
  | 0, t, s, r, hl, h => by
    obtain rfl := List.length_eq_zero_iff.mp hl
    obtain rfl := List.perm_nil.mp h
    rw [List.append_nil]
    exact .here
  | n + 1, t, s, r, hl, h => by
    have ht : t ≠ [] := fun e => by rw [e] at hl; cases hl
    obtain ⟨t', v, rfl⟩ : ∃ t' v, t = t' ++ [v] := ⟨t.dropLast, t.getLast ht, (List.dropLast_concat_getLast ht).symm⟩
    have hv : v ∈ r := h.symm.subset (by simp)
    have hr : (r.erase v).Perm t' := by
      have h2 := (List.perm_cons_erase hv).symm.trans (h.trans List.perm_append_comm)
      exact h2.cons_inv
    have ih := front_reach n t' (v :: s) (r.erase v) (by simpa using hl) hr
    have st := front_step s r v hv
    rw [List.append_assoc]
    rcases st with st | st
    · exact (Bf.Reach.step .here st).trans ih
    · rw [← st]
      exact ih
theorem reach_ok (w : Way) {x y : Row} (h : x.Perm y) : Bf.Reach (NW w) x y := by
  cases w with
  | any => simpa using reach_ctx any_swap h []
  | near => simpa using reach_ctx near_swap h []
  | move => simpa using reach_ctx move_swap h []
  | front => simpa using front_reach y.length y [] x rfl h
/-! ### both find the same -/
theorem far_off (w : Way) {n : Nat} (h0 : 0 < n) (hn : n ≤ 4) {row : Row} (hr : row.length = n) (hk : ∀ v ∈ row, 0 ≤ v ∧ v < 4) :
    ∃ kv kv2 : List (Row × Int), t_far_from row w.s = .ok kv ∧ t__law_off row w.s = .ok kv2 ∧ (∀ y, lk kv y = lk kv2 y) ∧ (keys kv).Nodup ∧ (∀ y, y ∈ keys kv ↔ y.Perm row) ∧ (∀ y, y.Perm row → ∃ d, lk kv y = some d ∧ 0 ≤ d ∧ d < 256) ∧ lk kv row = some 0 ∧ (∀ y, lk kv y = some 0 → y = row) := by
  obtain ⟨kv, e1, b1, s1⟩ := far_ok (B := 256) (steps_ok w h0 hn row hr hk) (by decide) (row := row) (List.Perm.refl _)
  have LS : LSteps (fun x : Row => x.Perm row) w.s (LN w) 256 := {
    steps := fun x hx => ⟨lsteps_ok w (by rw [hx.length_eq]; omega), fun y hy => (LN_perm w hy).trans hx⟩
    bound := (steps_ok w h0 hn row hr hk).bound }
  obtain ⟨kv2, e2, b2, s2⟩ := off_ok LS (by decide) (row := row) (List.Perm.refl _)
  have same : ∀ y, lk kv y = lk kv2 y := fun y => by
    rw [lk_kv, lk_kv]
    exact Bf.unique (same_steps w) b1 b2 y
  have mem : ∀ y, y ∈ keys kv ↔ y.Perm row := fun y => ⟨s1 y, fun h => Bf.found b1 (reach_ok w h.symm)⟩
  have bd : ∀ y d, lk kv y = some d → 0 ≤ d ∧ d < 256 := fun y d h => by
    rw [lk_kv] at h
    have h1 := b1.bd d (Bf.look_mem h).2
    have h2 : (keys kv).length ≤ 256 := (steps_ok w h0 hn row hr hk).bound _ b1.nd s1
    rw [b1.len] at h2
    omega
  refine ⟨kv, kv2, e1, e2, same, b1.nd, mem, fun y h => ?_, by rw [lk_kv]; exact b1.z, fun y h => ?_⟩
  · obtain ⟨d, hd⟩ := Bf.look_some b1.len ((mem y).mpr h)
    rw [← lk_kv] at hd
    exact ⟨d, hd, bd y d hd⟩
  · rw [lk_kv] at h
    rcases b1.up y 0 h with ⟨e, _⟩ | ⟨x, hx, _⟩
    · exact e
    · exact absurd (bd x (0 - 1) (by rw [lk_kv]; exact hx)).1 (by decide)
end G

set_option maxRecDepth 100000
set_option maxHeartbeats 4000000
/-! P73f: rows in order -/
namespace Ty
open PySem PySem.Spec PyProof.Rows L2 Ev
theorem pkD_of {α : Type} [DecidableEq α] (c : Cd α) [CEq c] (a : α) : pkD (c.d a) = CEq.p c a := by rw [pkD, CEq.pd]; rfl
theorem leC_eq {α : Type} [DecidableEq α] (c : Cd α) [CEq c] (a b : α) : leC c a b = !PySem.W.dataLt (CEq.p c b) (CEq.p c a) := by
  show PySem.W.dataLe false pkD (c.d a) (c.d b) = _
  rw [PySem.W.dataLe_eq]
  show (!PySem.W.dataLt (pkD (c.d b)) (pkD (c.d a))) = _
  rw [pkD_of, pkD_of]
theorem leC_int (a b : Int) : leC cI a b = decide (a ≤ b) := by
  rw [leC_eq]
  show (!PySem.W.dataLt (.int b) (.int a)) = _
  rw [PySem.W.dataLt_int]
  by_cases h : b < a
  · rw [decide_eq_true h, decide_eq_false (by omega)]; rfl
  · rw [decide_eq_false h, decide_eq_true (by omega)]; rfl
theorem leC_rows (a b : List Int) : leC (cT cI) a b = decide (a ≤ b) := by
  rw [leC_eq]
  show (!PySem.W.dataLt (.tuple (b.map .int)) (.tuple (a.map .int))) = _
  rw [PySem.W.dataLt_tuple]
  show (!PySem.W.rowLt (b.map .int) (a.map .int)) = _
  rw [PySem.W.dataLt_ints]
  by_cases h : b < a
  · have h' : ¬ a ≤ b := fun r => List.not_lt.mpr r h
    simp [h, h']
  · have h' : a ≤ b := List.not_lt.mp h
    simp [h, h']
theorem insO_at' {α : Type} {le : α → α → Bool} {a : α} : ∀ {l r : List α}, (∀ b ∈ l, le a b = false) → (∀ b ∈ r, le a b = true) → insO le a (l ++ r) = l ++ a :: r
  | [], [], _, _ => rfl
  | [], b :: r, _, h => by
    show insO le a (b :: r) = _
    rw [insO, h b List.mem_cons_self]
    rfl
  | c :: l, r, h1, h2 => by
    show insO le a (c :: (l ++ r)) = _
    rw [insO, h1 c List.mem_cons_self, insO_at' (fun b hb => h1 b (List.mem_cons_of_mem _ hb)) h2]
    rfl
theorem insS_eq' {α : Type} {le : α → α → Bool} (trans : ∀ a b c : α, le a b → le b c → le a c) (total : ∀ a b : α, le a b || le b a) : ∀ l : List α, insS le l = l.mergeSort le
  | [] => by simp [insS]
  | a :: l => by
    obtain ⟨l1, l2, h1, h2, h3⟩ := List.mergeSort_cons trans total a l
    rw [insS, insS_eq' trans total l, h2, h1]
    refine insO_at' (fun b hb => by simpa using h3 b hb) fun b hb => ?_
    have s := List.pairwise_mergeSort trans total (a :: l)
    rw [h1] at s
    exact (List.pairwise_cons.mp (List.pairwise_append.mp s).2.1).1 b hb
/-- sorting, by an order of the things -/
theorem sort_spec {α : Type} {le : α → α → Bool} (R : α → α → Prop) (hle : ∀ a b, le a b = true ↔ R a b) (tr : ∀ a b c, R a b → R b c → R a c) (tot : ∀ a b, R a b ∨ R b a) (xs : List α) : (insS le xs).Perm xs ∧ (insS le xs).Pairwise R := by
  have e := insS_eq' (le := le) (fun a b c h1 h2 => (hle a c).mpr (tr a b c ((hle a b).mp h1) ((hle b c).mp h2))) (fun a b => Bool.or_eq_true_iff.mpr ((tot a b).imp (hle a b).mpr (hle b a).mpr)) xs
  rw [e]
  refine ⟨List.mergeSort_perm _ _, (List.pairwise_mergeSort (fun a b c h1 h2 => (hle a c).mpr (tr a b c ((hle a b).mp h1) ((hle b c).mp h2))) (fun a b => Bool.or_eq_true_iff.mpr ((tot a b).imp (hle a b).mpr (hle b a).mpr)) xs).imp fun {a b} h => (hle a b).mp h⟩
theorem sort_ints (xs : List Int) : (insS (leC cI) xs).Perm xs ∧ (insS (leC cI) xs).Pairwise (· ≤ ·) := sort_spec (· ≤ ·) (fun a b => by rw [leC_int, decide_eq_true_iff]) (fun _ _ _ => Int.le_trans) Int.le_total xs
theorem sort_rows (xs : List (List Int)) : (insS (leC (cT cI)) xs).Perm xs ∧ (insS (leC (cT cI)) xs).Pairwise (· ≤ ·) := sort_spec (· ≤ ·) (fun a b => by rw [leC_rows, decide_eq_true_iff]) (fun _ _ _ => List.le_trans) List.le_total xs
theorem sorted_unique {α : Type} {R : α → α → Prop} (anti : ∀ a b, R a b → R b a → a = b) {xs ys : List α} (h1 : xs.Pairwise R) (h2 : ys.Pairwise R) (p : xs.Perm ys) : xs = ys := p.eq_of_pairwise (fun a b _ _ => anti a b) h1 h2
theorem sort_eq_rows {xs ys : List (List Int)} (p : ys.Perm xs) (h : ys.Pairwise (· ≤ ·)) : insS (leC (cT cI)) xs = ys :=
  sorted_unique (fun _ _ => List.le_antisymm) (sort_rows xs).2 h ((sort_rows xs).1.trans p.symm)
theorem alike_rows (a b : List Int) : PySem.W.alike (CEq.p (cT cI) a) (CEq.p (cT cI) b) = true := PySem.W.DatumOrd.alike (α := PySem.W.Tup Int) ⟨a⟩ ⟨b⟩
theorem sortR_rows {xs : List (List Int)} (hne : ∀ x ∈ xs, x ≠ []) (hl : xs.length ≤ 16777216) : sortR (cT cI) xs = .ok (insS (leC (cT cI)) xs) := by
  have h : sortB (xs.map (CEq.p (cT cI))) = true := by
    unfold sortB
    have h1 : ((xs.map (CEq.p (cT cI))).all fun p => (xs.map (CEq.p (cT cI))).all fun q => PySem.W.alike p q) = true := by
      rw [List.all_eq_true]
      intro p hp
      obtain ⟨a, _, rfl⟩ := List.mem_map.mp hp
      rw [List.all_eq_true]
      intro q hq
      obtain ⟨b, _, rfl⟩ := List.mem_map.mp hq
      exact alike_rows a b
    have h2 : (xs.map (CEq.p (cT cI))).all tupNE = true := by
      rw [List.all_eq_true]
      intro p hp
      obtain ⟨a, ha, rfl⟩ := List.mem_map.mp hp
      cases a with
      | nil => exact absurd rfl (hne _ ha)
      | cons x r => rfl
    have h3 : ((xs.map (CEq.p (cT cI))).all fun p => Nat.ble p.depth 20) = true := by
      rw [List.all_eq_true]
      intro p hp
      obtain ⟨a, ha, rfl⟩ := List.mem_map.mp hp
      exact Nat.ble_eq_true_of_le (Nat.le_trans (CEq.dle (c := cT cI) a) (show 0 + 1 ≤ 20 by decide))
    rw [h1, h2, h3, List.length_map, lineB_of hl]
    rfl
  rw [sortR, h]
theorem sortR_ints {xs : List Int} (hl : xs.length ≤ 16777216) : sortR cI xs = .ok (insS (leC cI) xs) := by
  have h : sortB (xs.map (CEq.p cI)) = true := by
    unfold sortB
    have h1 : ((xs.map (CEq.p cI)).all fun p => (xs.map (CEq.p cI)).all fun q => PySem.W.alike p q) = true := by
      rw [List.all_eq_true]
      intro p hp
      obtain ⟨a, _, rfl⟩ := List.mem_map.mp hp
      rw [List.all_eq_true]
      intro q hq
      obtain ⟨b, _, rfl⟩ := List.mem_map.mp hq
      exact PySem.W.DatumOrd.alike (α := Int) a b
    have h2 : (xs.map (CEq.p cI)).all notTN = true := by
      rw [List.all_eq_true]
      intro p hp
      obtain ⟨a, ha, rfl⟩ := List.mem_map.mp hp
      rfl
    have h3 : ((xs.map (CEq.p cI)).all fun p => Nat.ble p.depth 20) = true := by
      rw [List.all_eq_true]
      intro p hp
      obtain ⟨a, ha, rfl⟩ := List.mem_map.mp hp
      exact Nat.ble_eq_true_of_le (Nat.le_trans (CEq.dle (c := cI) a) (show 0 ≤ 20 by decide))
    rw [h1, h2, h3, Bool.or_true, List.length_map, lineB_of hl]
    rfl
  rw [sortR, h]
/-- rows with the same things sort alike -/
theorem sort_perm {xs ys : List Int} (h : xs.Perm ys) : insS (leC cI) xs = insS (leC cI) ys :=
  sorted_unique (R := (· ≤ ·)) (fun a b h1 h2 => Int.le_antisymm h1 h2) (sort_ints xs).2 (sort_ints ys).2 ((sort_ints xs).1.trans (h.trans (sort_ints ys).1.symm))
theorem mem_insU (a : Int) : ∀ (xs : List Int) (v : Int), v ∈ insU a xs ↔ v = a ∨ v ∈ xs
  | [], v => by simp [insU]
  | b :: r, v => by
    rw [insU]
    by_cases h : a < b
    · simp only [decide_eq_true h, List.mem_cons]
    · rw [decide_eq_false h]
      by_cases h2 : a = b
      · subst h2
        simp only [decide_true, List.mem_cons]
        constructor
        · exact fun z => .inr z
        · rintro (z | z)
          · exact .inl z
          · exact z
      · simp only [decide_eq_false h2, List.mem_cons, mem_insU a r v]
        constructor
        · rintro (z | z | z)
          · exact .inr (.inl z)
          · exact .inl z
          · exact .inr (.inr z)
        · rintro (z | z | z)
          · exact .inr (.inl z)
          · exact .inl z
          · exact .inr (.inr z)
theorem mem_setS : ∀ (xs : List Int) (v : Int), v ∈ setS xs ↔ v ∈ xs
  | [], v => by simp [setS]
  | a :: r, v => by rw [setS, mem_insU, mem_setS r, List.mem_cons]
theorem insU_sorted (a : Int) : ∀ xs : List Int, xs.Pairwise (· < ·) → (insU a xs).Pairwise (· < ·)
  | [], _ => by simp [insU]
  | b :: r, h => by
    rw [insU]
    by_cases h1 : a < b
    · simp only [decide_eq_true h1]
      rw [List.pairwise_cons]
      refine ⟨fun v hv => ?_, h⟩
      rcases List.mem_cons.mp hv with rfl | hv
      · exact h1
      · exact Int.lt_trans h1 ((List.pairwise_cons.mp h).1 v hv)
    · rw [decide_eq_false h1]
      by_cases h2 : a = b
      · subst h2
        simp only [decide_true]
        exact h
      · simp only [decide_eq_false h2]
        rw [List.pairwise_cons]
        refine ⟨fun v hv => ?_, insU_sorted a r (List.pairwise_cons.mp h).2⟩
        rcases (mem_insU a r v).mp hv with rfl | hv
        · omega
        · exact (List.pairwise_cons.mp h).1 v hv
theorem setS_sorted : ∀ xs : List Int, (setS xs).Pairwise (· < ·)
  | [] => by simp [setS]
  | a :: r => insU_sorted a _ (setS_sorted r)
theorem insU_len (a : Int) : ∀ xs : List Int, (insU a xs).length ≤ xs.length + 1
  | [] => by simp [insU]
  | b :: r => by
    rw [insU]
    cases decide (a < b) with
    | true => simp
    | false =>
      cases decide (a = b) with
      | true => simp
      | false =>
        have := insU_len a r
        simp only [List.length_cons]
        omega
theorem setS_len : ∀ xs : List Int, (setS xs).length ≤ xs.length
  | [] => by simp [setS]
  | a :: r => by
    have h1 := insU_len a (setS r)
    have h2 := setS_len r
    rw [setS, List.length_cons]
    omega
end Ty
/-! ### all rows of the same things, in order -/
namespace G
open PySem PySem.Spec PyProof.Rows L2 Ev Ty
def cnt (v : Int) (x : Row) : Nat := x.countP fun y => decide (y = v)
theorem cnt_count (v : Int) (x : Row) : cnt v x = x.count v := by
  rw [cnt, List.count_eq_countP]
  congr 1
/-- rows one place longer -/
def ext1 (K : List Int) (row x : Row) : List Row := (K.filter fun k => decide (cnt k x < cnt k row)).map fun k => x ++ [k]
def lvl (K : List Int) (row : Row) : Nat → List Row
  | 0 => [[]]
  | i + 1 => (lvl K row i).flatMap (ext1 K row)
theorem cnt_snoc (v : Int) (x : Row) (k : Int) : cnt v (x ++ [k]) = cnt v x + if k = v then 1 else 0 := by
  rw [cnt, List.countP_append, cnt]
  by_cases h : k = v <;> simp [h]
theorem mem_lvl {K : List Int} {row : Row} (hK : ∀ v, v ∈ row → v ∈ K) : ∀ (i : Nat) (x : Row), x ∈ lvl K row i ↔ x.length = i ∧ ∀ v, cnt v x ≤ cnt v row
  | 0, x => by
    rw [lvl, List.mem_singleton]
    constructor
    · rintro rfl
      exact ⟨rfl, fun v => Nat.zero_le _⟩
    · exact fun h => List.length_eq_zero_iff.mp h.1
  | i + 1, x => by
    rw [lvl, List.mem_flatMap]
    constructor
    · rintro ⟨y, hy, h⟩
      obtain ⟨h1, h2⟩ := (mem_lvl hK i y).mp hy
      rw [ext1, List.mem_map] at h
      obtain ⟨k, hk, rfl⟩ := h
      have hk2 : cnt k y < cnt k row := by simpa using (List.mem_filter.mp hk).2
      refine ⟨by rw [List.length_append, h1]; rfl, fun v => ?_⟩
      rw [cnt_snoc]
      by_cases e : k = v
      · rw [if_pos e, ← e]; exact hk2
      · rw [if_neg e]; exact h2 v
    · rintro ⟨h1, h2⟩
      have hx : x ≠ [] := fun e => by rw [e] at h1; cases h1
      obtain ⟨y, k, rfl⟩ : ∃ y k, x = y ++ [k] := ⟨x.dropLast, x.getLast hx, (List.dropLast_concat_getLast hx).symm⟩
      have hk : cnt k y < cnt k row := by
        have := h2 k
        rw [cnt_snoc, if_pos rfl] at this
        exact this
      refine ⟨y, (mem_lvl hK i y).mpr ⟨by simpa using h1, fun v => ?_⟩, ?_⟩
      · have := h2 v
        rw [cnt_snoc] at this
        omega
      · rw [ext1, List.mem_map]
        refine ⟨k, List.mem_filter.mpr ⟨hK k ?_, decide_eq_true hk⟩, rfl⟩
        have : 0 < cnt k row := by omega
        rw [cnt_count] at this
        exact List.count_pos_iff.mp this
theorem lt_snoc : ∀ {x y : Row} {a b : Int}, x.length = y.length → x < y → x ++ [a] < y ++ [b]
  | [], [], _, _, _, h => absurd h (by simp)
  | [], _ :: _, _, _, l, _ => by cases l
  | _ :: _, [], _, _, l, _ => by cases l
  | u :: x, v :: y, a, b, l, h => by
    rw [List.cons_append, List.cons_append, List.cons_lt_cons_iff]
    rcases List.cons_lt_cons_iff.mp h with h | ⟨h, h2⟩
    · exact .inl h
    · exact .inr ⟨h, lt_snoc (by simpa using l) h2⟩
theorem lt_snoc2 : ∀ (x : Row) {a b : Int}, a < b → x ++ [a] < x ++ [b]
  | [], a, b, h => by simp [List.cons_lt_cons_iff, h]
  | u :: x, a, b, h => by
    rw [List.cons_append, List.cons_append, List.cons_lt_cons_iff]
    exact .inr ⟨rfl, lt_snoc2 x h⟩
theorem lvl_sorted {K : List Int} {row : Row} (hK : ∀ v, v ∈ row → v ∈ K) (hs : K.Pairwise (· < ·)) : ∀ i : Nat, (lvl K row i).Pairwise (· < ·)
  | 0 => by simp [lvl]
  | i + 1 => by
    rw [lvl, List.pairwise_flatMap]
    refine ⟨fun x _ => ?_, (lvl_sorted hK hs i).imp_of_mem fun {x y} hx hy h u hu v hv => ?_⟩
    · rw [ext1, List.pairwise_map]
      exact (hs.filter _).imp fun h => lt_snoc2 x h
    · obtain ⟨k, _, rfl⟩ := List.mem_map.mp hu
      obtain ⟨l, _, rfl⟩ := List.mem_map.mp hv
      exact lt_snoc (((mem_lvl hK i x).mp hx).1.trans ((mem_lvl hK i y).mp hy).1.symm) h
theorem perm_of_counts : ∀ (x row : Row), x.length = row.length → (∀ v, cnt v x ≤ cnt v row) → x.Perm row
  | [], row, h, _ => by
    have := List.length_eq_zero_iff.mp h.symm
    rw [this]
  | a :: x, row, h, hc => by
    have ha : a ∈ row := by
      have := hc a
      rw [cnt_count, cnt_count, List.count_cons_self] at this
      exact List.count_pos_iff.mp (by omega)
    have ih := perm_of_counts x (row.erase a) (by rw [List.length_erase_of_mem ha, ← h]; rfl) fun v => by
      have := hc v
      rw [cnt_count, cnt_count] at this ⊢
      rw [List.count_erase]
      rw [List.count_cons] at this
      split <;> simp_all <;> omega
    exact (List.Perm.cons a ih).trans (List.perm_cons_erase ha).symm
theorem mem_all {K : List Int} {row : Row} (hK : ∀ v, v ∈ row → v ∈ K) (x : Row) : x ∈ lvl K row row.length ↔ x.Perm row := by
  rw [mem_lvl hK]
  constructor
  · exact fun ⟨h1, h2⟩ => perm_of_counts x row h1 h2
  · exact fun h => ⟨h.length_eq, fun v => by rw [cnt_count, cnt_count, h.count_eq]; exact Nat.le_refl _⟩
theorem ext1_len (K : List Int) (row x : Row) : (ext1 K row x).length ≤ K.length := by
  rw [ext1, List.length_map]
  exact List.length_filter_le _ _
theorem lvl_len (K : List Int) (row : Row) : ∀ i : Nat, (lvl K row i).length ≤ K.length ^ i
  | 0 => by simp [lvl]
  | i + 1 => by
    rw [lvl, Nat.pow_succ]
    exact Nat.le_trans (flatMap_le (g := ext1 K row) (k := K.length) _ fun x _ => ext1_len K row x) (Nat.mul_le_mul_right _ (lvl_len K row i))
end G

set_option maxRecDepth 100000
set_option maxHeartbeats 4000000
/-! P73g: right arguments pass; all rows by the law -/
namespace G
open PySem PySem.Spec PyProof.Rows L2 Ev Ty
theorem whole_ok (v : Int) : t_is_whole (anyOf cI v) = .ok true := rfl
theorem between_ok (v a b : Int) : t_is_between (anyOf cI v) a b = .ok (decide (a ≤ v) && decide (v ≤ b)) := by
  unfold t_is_between
  rw [whole_ok, Rt.ok_bind, cond_true, asI_any, Rt.ok_bind]
  cases decide (a ≤ v) <;> rfl
theorem kind_ok {K v : Int} (h : 0 ≤ v ∧ v < K) : t_is_kind K (anyOf cI v) = .ok true := by
  unfold t_is_kind
  rw [between_ok, decide_eq_true h.1, decide_eq_true (by omega)]
  rfl
theorem check_kinds_ok {K : Int} (h : 2 ≤ K ∧ K ≤ 4) : t_check_kinds (anyOf cI K) = .ok () := by
  unfold t_check_kinds t_is_kinds
  rw [between_ok, decide_eq_true h.1, decide_eq_true h.2]
  rfl
/-- a row of kinds -/
structure RowOk (K : Int) (x : Row) : Prop where
  l0 : 0 < x.length
  l7 : x.length ≤ 7
  k : ∀ v ∈ x, 0 ≤ v ∧ v < K
theorem is_row_ok {K : Int} {x : Row} (h : RowOk K x) : t_is_row_wants K (anyOf (cT cI) x) = .ok true := by
  unfold t_is_row_wants
  rw [isi_T, asT_any]
  simp only [Rt.ok_bind, Bool.not_true, cond_false, List.length_map]
  have l0 := h.l0
  have l7 := h.l7
  rw [decide_eq_true (show (1 : Int) ≤ (x.length : Int) by omega), decide_eq_true (show (x.length : Int) ≤ 7 by omega)]
  simp only [cond_true, Rt.ok_bind, Bool.not_true, cond_false]
  rw [lcT_map (g := fun _ => true) _ fun p hp => by
    obtain ⟨v, hv, rfl⟩ := List.mem_map.mp hp
    exact kind_ok (h.k v hv)]
  rw [Rt.ok_bind, lineR_of (by rw [List.length_map, List.length_map]; omega), Rt.ok_bind]
  congr 1
  rw [List.all_map]
  exact List.all_eq_true.mpr fun _ _ => rfl
theorem is_goal_ok {K : Int} {x y : Row} (h : RowOk K y) (hp : y.Perm x) : t_is_goal K x (anyOf (cT cI) y) = .ok true := by
  unfold t_is_goal
  have l7 := h.l7
  have e := hp.length_eq
  rw [is_row_ok h, Rt.ok_bind, cond_true, asTI_any, Rt.ok_bind, sortR_ints (by omega), sortR_ints (by omega), Rt.ok_bind, Rt.ok_bind, sort_perm hp, decide_eq_true rfl]
theorem is_way_ok (w : Way) : t_is_way (anyOf cS w.s) = .ok true := by
  unfold t_is_way t_is_string
  rw [isi_S, Rt.ok_bind, cond_true, asS_any, Rt.ok_bind]
  cases w <;> exact congrArg Rt.ok (by decide +kernel)
theorem check_way_ok (w : Way) : t_check_way (anyOf cS w.s) = .ok () := by
  unfold t_check_way
  rw [is_way_ok]
  rfl
/-- the rows of one call -/
structure RowsOk (K : Int) (n : Nat) (base : Row) (rows : List Row) : Prop where
  k : 2 ≤ K ∧ K ≤ 4
  n0 : 0 < n
  n4 : n ≤ 4
  bl : base.length = n
  bk : ∀ v ∈ base, 0 ≤ v ∧ v < K
  ne : rows ≠ []
  l6 : rows.length ≤ 6
  p : ∀ x ∈ rows, x.Perm base
section
variable {K : Int} {n : Nat} {base : Row} {rows : List Row} (H : RowsOk K n base rows)
include H
theorem RowsOk.row {x : Row} (h : x.Perm base) : RowOk K x := ⟨by rw [h.length_eq, H.bl]; exact H.n0, by rw [h.length_eq, H.bl]; have := H.n4; omega, fun v hv => H.bk v (h.subset hv)⟩
theorem RowsOk.k4 {x : Row} (h : x.Perm base) : ∀ v ∈ x, 0 ≤ v ∧ v < 4 := fun v hv => by
  have := H.bk v (h.subset hv)
  have := H.k
  omega
theorem RowsOk.first : ∃ r0 t, rows = r0 :: t := by
  cases h : rows with
  | nil => exact absurd h H.ne
  | cons a t => exact ⟨a, t, rfl⟩
theorem check_rows_ok (w : Way) : t_check_rows K rows w.s = .ok () := by
  obtain ⟨r0, t, e⟩ := H.first
  have h0 : r0.Perm base := H.p r0 (by rw [e]; exact List.mem_cons_self)
  have ix0 : ixR rows 0 = .ok r0 := by
    rw [e]
    exact ixR_nat (i := 0) (by simp)
  unfold t_check_rows
  rw [check_kinds_ok H.k]
  have hv : t_is_row_values (anyOf (cT (cT cI)) rows) 1 6 = .ok true := by
    unfold t_is_row_values
    rw [isi_T, asT_any]
    simp only [Rt.ok_bind, cond_true, List.length_map]
    have := H.l6
    rw [decide_eq_true (show (1 : Int) ≤ (rows.length : Int) by rw [e, List.length_cons]; omega), decide_eq_true (show (rows.length : Int) ≤ 6 by omega)]
    rfl
  rw [hv]
  simp only [Rt.ok_bind, Bool.not_true, cond_false]
  rw [forT_fold (g := fun _ _ => ()) rows () fun x hx s => ?_]
  · rw [Rt.ok_bind, check_way_ok]
    rfl
  · have hx' := H.p x hx
    rw [is_row_ok (H.row hx'), ix0]
    simp only [Rt.ok_bind, Bool.not_true, cond_false]
    rw [is_row_ok (H.row h0), is_goal_ok (H.row hx') (hx'.trans h0.symm)]
    rfl
end
/-! ### all rows by the law -/
def allF (row : Row) (s : List Row) (x : Row) : Rt (List Row) :=
  (Rt.bind (Rt.bind (Rt.bind (sortSetR row) fun xs_474 => Rt.bind (lcT xs_474 (fun (k : Int) => (.ok (decide (((x.countP fun y => decide (y = k) : Nat) : Int) < ((row.countP fun y => decide (y = k) : Nat) : Int))))) (fun (k : Int) => (Rt.bind (lineR (k :: ([] : List Int))) fun z => catR x z))) lineR) fun z => catR s z) fun l => (.ok l))
theorem all_eq (row : Row) : t__law_all_rows row = (Rt.bind (Rt.bind (Rt.bind (lineR ([] : List Int)) fun x_452 => .ok (x_452 :: ([] : List Row))) lineR) fun found => (Rt.bind (Rt.bind (rngR1 (row.length : Int)) fun xs => forT xs found (fun (s : List Row) (_ : Int) => (Rt.bind (lineR ([] : List Row)) fun longer => (Rt.bind (forT s longer (allF row)) fun s => (Rt.bind (.ok s) fun f => (.ok f)))))) fun s => (.ok s))) := rfl
theorem all_ok {row : Row} (hn : row.length ≤ 4) : t__law_all_rows row = .ok (lvl (setS row) row row.length) := by
  have hK : (setS row).length ≤ 4 := Nat.le_trans (setS_len row) hn
  have hl : ∀ i, i ≤ 4 → (lvl (setS row) row i).length ≤ 256 := fun i hi => Nat.le_trans (lvl_len _ _ i) (Nat.le_trans (Nat.pow_le_pow_left hK i) (Nat.le_trans (Nat.pow_le_pow_right (by decide) hi) (by decide : 4 ^ 4 ≤ 256)))
  rw [all_eq, lineR_of (by simp)]
  simp only [Rt.ok_bind]
  rw [lineR_of (by simp)]
  simp only [Rt.ok_bind]
  rw [rngR1_of (by omega)]
  simp only [Rt.ok_bind]
  have inner : ∀ (x s : List Int) , True := fun _ _ => trivial
  have step : ∀ i, i < 4 → forT (lvl (setS row) row i) [] (allF row) = .ok (lvl (setS row) row (i + 1)) := by
    intro i hi
    have := forT_app (M := 2000) (f := allF row) (g := ext1 (setS row) row) (lvl (setS row) row i) [] (fun x hx s hs => by
      have hx := ((mem_lvl (fun v hv => (mem_setS row v).mpr hv) i x).mp hx).1
      unfold allF
      have e1 := ext1_len (setS row) row x
      rw [sortSetR, Nat.ble_eq_true_of_le (by omega)]
      simp only [Rt.ok_bind]
      rw [lcT_ok (P := fun k => decide (cnt k x < cnt k row)) (g := fun k => x ++ [k]) _ (fun k _ => by
        congr 1
        exact decide_eq_decide.mpr Int.ofNat_lt) (fun k _ _ => by
        rw [lineR_of (by simp), Rt.ok_bind, catR_of (by rw [List.length_singleton]; omega)])]
      simp only [Rt.ok_bind]
      rw [lineR_of (by rw [ext1, List.length_map] at e1; rw [List.length_map]; omega), Rt.ok_bind, catR_of (by rw [ext1] at hs; omega)]
      rfl) (by
        have := hl (i + 1) (by omega)
        rw [lvl] at this
        simp only [List.length_nil]
        omega)
    rw [this, List.nil_append, lvl]
  obtain ⟨s', e, hI⟩ := forT_inv (f := fun (s : List Row) (_ : Int) => (Rt.bind (lineR ([] : List Row)) fun longer => (Rt.bind (forT s longer (allF row)) fun s => (Rt.bind (.ok s) fun f => (.ok f))))) (fun r s => r.length ≤ row.length ∧ s = lvl (setS row) row (row.length - r.length)) ((List.range row.length).map fun (i : Nat) => (i : Int)) [[]] (fun x r s hI => by
    obtain ⟨h1, h2⟩ := hI
    rw [List.length_cons] at h1 h2
    refine ⟨lvl (setS row) row (row.length - r.length), ?_, by omega, rfl⟩
    rw [lineR_of (by simp), Rt.ok_bind, h2, step _ (by omega)]
    simp only [Rt.ok_bind]
    congr 2
    omega) ⟨by simp, by simp [lvl]⟩
  simp only [Rt.ok_bind] at e ⊢
  rw [e, hI.2]
  simp only [Rt.ok_bind, List.length_nil, Nat.sub_zero]
end G

set_option maxRecDepth 100000
set_option maxHeartbeats 4000000
/-! P73h: sums of distances, the medians -/
namespace Ty
open Ev
section
variable {κ ν : Type} [DecidableEq κ]
theorem lk_append_new {kv : List (κ × ν)} {q : κ} {x : ν} (y : κ) : lk (kv ++ [(q, x)]) y = (lk kv y).or (if q = y then some x else none) := by
  induction kv with
  | nil => rfl
  | cons p r ih =>
    obtain ⟨k, v⟩ := p
    rw [List.cons_append, lk, lk]
    by_cases e : k = y
    · rw [if_pos e, if_pos e]; rfl
    · rw [if_neg e, if_neg e, ih]
theorem lk_upd (kv : List (κ × ν)) (q : κ) (x : ν) (y : κ) : lk (kv.map fun p => (p.1, if p.1 = q then x else p.2)) y = if q = y then (lk kv y).map (fun _ => x) else lk kv y := by
  induction kv with
  | nil => simp [lk]
  | cons p r ih =>
    obtain ⟨k, v⟩ := p
    rw [List.map_cons, lk, lk]
    by_cases e : k = y
    · rw [if_pos e, if_pos e]
      by_cases e2 : q = y
      · rw [if_pos e2]
        simp [e, e2]
      · rw [if_neg e2, if_neg (by rw [e]; exact fun z => e2 z.symm)]
    · rw [if_neg e, if_neg e, ih]
theorem lk_pt (kv : List (κ × ν)) (q : κ) (x : ν) (y : κ) : lk (pt kv q x) y = if q = y then some x else lk kv y := by
  unfold pt
  cases h : lk kv q with
  | some v =>
    simp only
    rw [lk_upd]
    by_cases e : q = y
    · rw [if_pos e, if_pos e, ← e, h]; rfl
    · rw [if_neg e, if_neg e]
  | none =>
    simp only
    rw [lk_append_new]
    by_cases e : q = y
    · rw [if_pos e, if_pos e, ← e, h]; rfl
    · rw [if_neg e, if_neg e]
      cases lk kv y <;> rfl
theorem lk_none_iff : ∀ {kv : List (κ × ν)} {q : κ}, lk kv q = none ↔ q ∉ kv.map (·.1)
  | [], q => by simp [lk]
  | (k, v) :: r, q => by
    rw [lk, List.map_cons]
    by_cases e : k = q
    · rw [if_pos e]
      simp [e]
    · rw [if_neg e, lk_none_iff, List.mem_cons, not_or]
      exact ⟨fun h => ⟨fun z => e z.symm, h⟩, fun h => h.2⟩
theorem lk_mem : ∀ {kv : List (κ × ν)} {p : κ × ν}, (kv.map (·.1)).Nodup → p ∈ kv → lk kv p.1 = some p.2
  | (k, v) :: r, p, nd, h => by
    rw [List.map_cons, List.nodup_cons] at nd
    rw [lk]
    rcases List.mem_cons.mp h with rfl | h
    · rw [if_pos rfl]
    · rw [if_neg fun e => nd.1 (by rw [e]; exact List.mem_map_of_mem (f := (·.1)) h), lk_mem nd.2 h]
theorem pt_keys (kv : List (κ × ν)) (q : κ) (x : ν) : ((pt kv q x).map (·.1)) = if q ∈ kv.map (·.1) then kv.map (·.1) else kv.map (·.1) ++ [q] := by
  unfold pt
  cases h : lk kv q with
  | some v =>
    have : q ∈ kv.map (·.1) := by
      by_cases z : q ∈ kv.map (·.1)
      · exact z
      · rw [lk_none_iff.mpr z] at h; cases h
    rw [if_pos this, List.map_map]
    rfl
  | none => rw [if_neg (lk_none_iff.mp h), List.map_append]; rfl
theorem pt_nodup {kv : List (κ × ν)} {q : κ} {x : ν} (nd : (kv.map (·.1)).Nodup) : ((pt kv q x).map (·.1)).Nodup := by
  rw [pt_keys]
  by_cases h : q ∈ kv.map (·.1)
  · rw [if_pos h]; exact nd
  · rw [if_neg h]
    exact List.nodup_append.mpr ⟨nd, by simp, fun a ha b hb e => h (by rw [List.mem_singleton.mp hb] at e; exact e ▸ ha)⟩
theorem pt_len (kv : List (κ × ν)) (q : κ) (x : ν) : (pt kv q x).length ≤ kv.length + 1 := by
  have := congrArg List.length (pt_keys kv q x)
  rw [List.length_map] at this
  rw [this]
  split
  · rw [List.length_map]; omega
  · rw [List.length_append, List.length_map]; exact Nat.le_refl _
end
theorem minI_spec : ∀ (r : List Int) (a : Int), (minI a r = a ∨ minI a r ∈ r) ∧ minI a r ≤ a ∧ ∀ v ∈ r, minI a r ≤ v
  | [], a => ⟨.inl rfl, Int.le_refl _, fun _ h => by cases h⟩
  | b :: r, a => by
    rw [minI]
    obtain ⟨h1, h2, h3⟩ := minI_spec r (if b < a then b else a)
    by_cases c : b < a
    · rw [if_pos c] at h1 h2 h3 ⊢
      refine ⟨.inr ?_, by omega, fun v hv => ?_⟩
      · rcases h1 with h1 | h1
        · rw [h1]; exact List.mem_cons_self
        · exact List.mem_cons_of_mem _ h1
      · rcases List.mem_cons.mp hv with rfl | hv
        · exact h2
        · exact h3 v hv
    · rw [if_neg c] at h1 h2 h3 ⊢
      refine ⟨?_, h2, fun v hv => ?_⟩
      · rcases h1 with h1 | h1
        · exact .inl h1
        · exact .inr (List.mem_cons_of_mem _ h1)
      · rcases List.mem_cons.mp hv with rfl | hv
        · omega
        · exact h3 v hv
theorem minR_spec {l : List Int} (h : l ≠ []) : ∃ m, minR l = .ok m ∧ m ∈ l ∧ ∀ v ∈ l, m ≤ v := by
  cases l with
  | nil => exact absurd rfl h
  | cons a r =>
    obtain ⟨h1, h2, h3⟩ := minI_spec r a
    refine ⟨_, rfl, ?_, fun v hv => ?_⟩
    · rcases h1 with h1 | h1
      · rw [h1]; exact List.mem_cons_self
      · exact List.mem_cons_of_mem _ h1
    · rcases List.mem_cons.mp hv with rfl | hv
      · exact h2
      · exact h3 v hv
end Ty
namespace G
open PySem PySem.Spec PyProof.Rows L2 Ev Ty
def dst (w : Way) (x y : Row) : Int := match t_far_from x w.s with
  | .ok kv => (lk kv y).getD 0
  | _ => 0
def S (w : Way) (rows : List Row) (y : Row) : Int := (rows.map fun x => dst w x y).sum
section
variable {K : Int} {n : Nat} {base : Row} {rows : List Row} (H : RowsOk K n base rows) (w : Way)
include H
theorem dst_ok {x : Row} (hx : x.Perm base) : ∃ kv kv2 : List (Row × Int), t_far_from x w.s = .ok kv ∧ t__law_off x w.s = .ok kv2 ∧ (∀ y, y.Perm base → lk kv y = some (dst w x y) ∧ lk kv2 y = some (dst w x y) ∧ 0 ≤ dst w x y ∧ dst w x y < 256) ∧
    (keys kv).Nodup ∧ (∀ y, y ∈ keys kv ↔ y.Perm base) := by
  obtain ⟨kv, kv2, h1, h2, h3, h4, h5, h6, h7, h8⟩ := far_off w H.n0 H.n4 (hx.length_eq.trans H.bl) (H.k4 hx)
  refine ⟨kv, kv2, h1, h2, fun y hy => ?_, h4, fun y => (h5 y).trans ⟨fun z => z.trans hx, fun z => z.trans hx.symm⟩⟩
  obtain ⟨d, e1, e2, e3⟩ := h6 y (hy.trans hx.symm)
  have e : dst w x y = d := by
    unfold dst
    rw [h1]
    show (lk kv y).getD 0 = d
    rw [e1]
    rfl
  rw [e]
  exact ⟨e1, by rw [← h3, e1], e2, e3⟩
theorem dst_zero {x y : Row} (hx : x.Perm base) (hy : y.Perm base) : dst w x y = 0 ↔ y = x := by
  obtain ⟨kv, kv2, h1, h2, h3, h4, h5, h6, h7, h8⟩ := far_off w H.n0 H.n4 (hx.length_eq.trans H.bl) (H.k4 hx)
  obtain ⟨d, e1, e2, e3⟩ := h6 y (hy.trans hx.symm)
  have e : dst w x y = d := by
    unfold dst
    rw [h1]
    show (lk kv y).getD 0 = d
    rw [e1]
    rfl
  rw [e]
  constructor
  · rintro rfl
    exact h8 y e1
  · rintro rfl
    rw [h7] at e1
    cases e1
    rfl
def accF (s : List (Row × Int)) (p : Row × Int) : Rt (List (Row × Int)) := (Rt.bind (ptR s p.1 (((lk s p.1).getD (0 : Int)) + p.2)) fun found => (.ok found))
omit H in
theorem acc_ok : ∀ (kv s : List (Row × Int)), (keys kv).Nodup → (keys s).Nodup → s.length + kv.length ≤ 1000000 → ∃ s', forT kv s accF = .ok s' ∧ (keys s').Nodup ∧ s'.length ≤ s.length + kv.length ∧ ∀ y, lk s' y = match lk kv y with
    | some d => some ((lk s y).getD 0 + d)
    | none => lk s y
  | [], s, _, nd, _ => ⟨s, rfl, nd, Nat.le_refl _, fun y => rfl⟩
  | p :: kv, s, nd1, nd, hl => by
    obtain ⟨k, v⟩ := p
    have nd1' := List.nodup_cons.mp (show (k :: keys kv).Nodup from nd1)
    rw [List.length_cons] at hl
    have h1 : accF s (k, v) = .ok (pt s k ((lk s k).getD 0 + v)) := by
      unfold accF
      rw [ptR, Nat.ble_eq_true_of_le (by omega)]
      rfl
    obtain ⟨s', e, g1, g2, g3⟩ := acc_ok kv (pt s k ((lk s k).getD 0 + v)) nd1'.2 (pt_nodup nd) (by have := pt_len s k ((lk s k).getD 0 + v); omega)
    refine ⟨s', by rw [forT, h1]; exact e, g1, by have := pt_len s k ((lk s k).getD 0 + v); rw [List.length_cons]; omega, fun y => ?_⟩
    rw [g3, lk_pt, lk]
    by_cases e1 : k = y
    · subst e1
      rw [if_pos rfl, if_pos rfl, lk_none_iff.mpr nd1'.1]
    · rw [if_neg e1, if_neg e1]
theorem sums_ok : ∃ told : List (Row × Int), t_sums_by rows w.s = .ok told ∧ (keys told).Nodup ∧ (∀ y, y ∈ keys told ↔ y.Perm base) ∧ ∀ y, y.Perm base → lk told y = some (S w rows y) := by
  have base_le : ∀ kv : List (Row × Int), (keys kv).Nodup → (∀ y, y ∈ keys kv → y.Perm base) → kv.length ≤ 256 := fun kv nd h => by
    have := Cnt.rows_le (b := 4) (n := n) (by decide) (keys kv) nd fun x hx => ⟨(h x hx).length_eq.trans H.bl, H.k4 (h x hx)⟩
    rw [keys, List.length_map] at this
    exact Nat.le_trans this (Nat.le_trans (Nat.pow_le_pow_right (by decide) H.n4) (by decide : 4 ^ 4 ≤ 256))
  have key : ∀ (l : List Row) (pre : List Row) (s : List (Row × Int)), (∀ x ∈ l, x.Perm base) → (keys s).Nodup → (∀ y, y ∈ keys s → y.Perm base) → (∀ y, y.Perm base → lk s y = if pre = [] then none else some (S w pre y)) →
      ∃ s', forT l s (fun (s : List (Row × Int)) (x : Row) => (Rt.bind (Rt.bind (Rt.bind (t_far_from x w.s) fun x => (.ok x)) fun xs => forT xs s accF) fun s => (.ok s))) = .ok s' ∧ (keys s').Nodup ∧ (∀ y, y ∈ keys s' → y.Perm base) ∧ ∀ y, y.Perm base → lk s' y = if pre ++ l = [] then none else some (S w (pre ++ l) y) := by
    intro l
    induction l with
    | nil => exact fun pre s _ h1 h2 h3 => ⟨s, rfl, h1, h2, fun y hy => by rw [List.append_nil]; exact h3 y hy⟩
    | cons x l ih =>
      intro pre s hp h1 h2 h3
      obtain ⟨kv, kv2, e1, _, e2, e3, e4⟩ := dst_ok H w (hp x List.mem_cons_self)
      have l1 := base_le kv e3 fun y hy => (e4 y).mp hy
      have l2 := base_le s h1 h2
      obtain ⟨s1, g0, g1, _, g3⟩ := acc_ok kv s e3 h1 (by omega)
      have in1 : ∀ y, y ∈ keys s1 → y.Perm base := fun y hy => by
        by_cases z : y.Perm base
        · exact z
        · exfalso
          have a1 : lk kv y = none := lk_none_iff.mpr fun q => z ((e4 y).mp q)
          have a2 : lk s y = none := lk_none_iff.mpr fun q => z (h2 y q)
          have := g3 y
          rw [a1] at this
          simp only [a2] at this
          exact lk_none_iff.mp this hy
      obtain ⟨s', k0, k1, k2, k3⟩ := ih (pre ++ [x]) s1 (fun z hz => hp z (List.mem_cons_of_mem _ hz)) g1 in1 (fun y hy => by
        rw [g3, (e2 y hy).1, h3 y hy, if_neg (show ¬ pre ++ [x] = [] by simp)]
        have e5 : S w (pre ++ [x]) y = S w pre y + dst w x y := by
          unfold S
          rw [List.map_append, List.sum_append]
          simp
        rw [e5]
        by_cases z : pre = []
        · subst z
          simp [S]
        · rw [if_neg z]
          rfl)
      refine ⟨s', ?_, k1, k2, fun y hy => by simpa using k3 y hy⟩
      rw [forT, e1]
      simp only [Rt.ok_bind]
      rw [g0]
      exact k0
  obtain ⟨s', k0, k1, k2, k3⟩ := key rows [] [] H.p (by simp [keys]) (fun y hy => by cases hy) fun y _ => by simp [lk]
  refine ⟨s', ?_, k1, fun y => ⟨k2 y, fun hy => ?_⟩, fun y hy => by simpa [H.ne] using k3 y hy⟩
  · show (Rt.bind (forT rows [] (fun (s : List (Row × Int)) (x : Row) => (Rt.bind (Rt.bind (Rt.bind (t_far_from x w.s) fun x => (.ok x)) fun xs => forT xs s accF) fun s => (.ok s)))) fun s => .ok s) = _
    rw [k0]
    rfl
  · have := k3 y hy
    rw [List.nil_append, if_neg H.ne] at this
    by_cases z : y ∈ keys s'
    · exact z
    · rw [lk_none_iff.mpr z] at this
      cases this
/-- all rows with the things of base, in order -/
def A (r0 : Row) : List Row := lvl (setS r0) r0 r0.length
omit H in
theorem mem_A {r0 : Row} (y : Row) : y ∈ A r0 ↔ y.Perm r0 := mem_all (fun v hv => (mem_setS r0 v).mpr hv) y
omit H in
theorem A_sorted (r0 : Row) : (A r0).Pairwise (· < ·) := lvl_sorted (fun v hv => (mem_setS r0 v).mpr hv) (setS_sorted r0) _
omit H in
theorem A_nodup (r0 : Row) : (A r0).Nodup := by
  rw [List.nodup_iff_pairwise_ne]
  exact (A_sorted r0).imp fun {a b} h e => by
    subst e
    exact absurd h (List.lt_irrefl a)
theorem A_len {r0 : Row} (h : r0.Perm base) : (A r0).length ≤ 256 := by
  have := Cnt.rows_le (b := 4) (n := n) (by decide) (A r0) (A_nodup r0) fun x hx => by
    have hx' := ((mem_A x).mp hx).trans h
    exact ⟨hx'.length_eq.trans H.bl, H.k4 hx'⟩
  exact Nat.le_trans this (Nat.le_trans (Nat.pow_le_pow_right (by decide) H.n4) (by decide : 4 ^ 4 ≤ 256))
/-- both tell this -/
theorem medians_ok : ∃ (m : Int) (r0 : Row), r0.Perm base ∧ (0 ≤ m ∧ m < 10000) ∧ t_medians_by rows w.s = .ok (m, (A r0).filter fun y => decide (S w rows y = m)) ∧ t__law_medians rows w.s = .ok (m, (A r0).filter fun y => decide (S w rows y = m)) := by
  obtain ⟨r0, t, er⟩ := H.first
  have hr0 : r0.Perm base := H.p r0 (by rw [er]; exact List.mem_cons_self)
  obtain ⟨told, e1, e2, e3, e4⟩ := sums_ok H w
  have memA : ∀ y, y ∈ A r0 ↔ y.Perm base := fun y => (mem_A y).trans ⟨fun z => z.trans hr0, fun z => z.trans hr0.symm⟩
  have lA := A_len H hr0
  have val : ∀ p ∈ told, p.1.Perm base ∧ p.2 = S w rows p.1 := fun p hp => by
    have hk : p.1.Perm base := (e3 p.1).mp (List.mem_map_of_mem hp)
    have h1 := lk_mem e2 hp
    rw [e4 p.1 hk] at h1
    exact ⟨hk, (Option.some.inj h1).symm⟩
  have Aperm : (keys told).Perm (A r0) := (List.perm_ext_iff_of_nodup e2 (A_nodup r0)).mpr fun y => (e3 y).trans (memA y).symm
  have tl : told.length ≤ 256 := by
    have := Aperm.length_eq
    rw [keys, List.length_map] at this
    omega
  have Ane : A r0 ≠ [] := fun z => by
    have := (memA r0).mpr hr0
    rw [z] at this
    cases this
  have tne : told ≠ [] := fun z => by
    have := (e3 r0).mpr hr0
    rw [z] at this
    cases this
  obtain ⟨m, m1, m2, m3⟩ := minR_spec (l := (A r0).map (S w rows)) (fun z => Ane (List.map_eq_nil_iff.mp z))
  obtain ⟨m', k1, k2, k3⟩ := minR_spec (l := told.map (·.2)) (fun z => tne (List.map_eq_nil_iff.mp z))
  have em : m' = m := by
    obtain ⟨p, hp, rfl⟩ := List.mem_map.mp k2
    obtain ⟨y, hy, rfl⟩ := List.mem_map.mp m2
    have a1 := m3 (S w rows p.1) (List.mem_map_of_mem ((memA p.1).mpr (val p hp).1))
    have a2 : ∃ q ∈ told, q.1 = y := by
      have := (e3 y).mpr ((memA y).mp hy)
      obtain ⟨q, hq, rfl⟩ := List.mem_map.mp this
      exact ⟨q, hq, rfl⟩
    obtain ⟨q, hq, rfl⟩ := a2
    have a3 := k3 q.2 (List.mem_map_of_mem hq)
    rw [(val q hq).2] at a3
    have := (val p hp).2
    omega
  subst em
  have bound : 0 ≤ m' ∧ m' < 10000 := by
    obtain ⟨y, hy, rfl⟩ := List.mem_map.mp m2
    have hy' := (memA y).mp hy
    have gen : ∀ l : List Row, (∀ x ∈ l, x.Perm base) → 0 ≤ S w l y ∧ S w l y ≤ 256 * l.length := by
      intro l
      induction l with
      | nil => exact fun _ => by simp [S]
      | cons x l ih =>
        intro hl
        obtain ⟨_, _, _, _, d, _⟩ := dst_ok H w (hl x List.mem_cons_self)
        have d := d y hy'
        have ih := ih fun z hz => hl z (List.mem_cons_of_mem _ hz)
        rw [S] at ih ⊢
        rw [List.map_cons, List.sum_cons, List.length_cons]
        push_cast
        omega
    have := gen rows H.p
    have := H.l6
    omega
  refine ⟨m', r0, hr0, bound, ?_, ?_⟩
  · unfold t_medians_by
    rw [e1, Rt.ok_bind, lcT_map (g := fun p : Row × Int => p.2) _ fun _ _ => rfl]
    simp only [Rt.ok_bind]
    rw [lineR_of (by rw [List.length_map]; omega), Rt.ok_bind, k1]
    simp only [Rt.ok_bind]
    rw [lcT_ok (P := fun p : Row × Int => decide (p.2 = m')) (g := fun p : Row × Int => p.1) _ (fun _ _ => rfl) fun _ _ _ => rfl]
    simp only [Rt.ok_bind]
    have fl : ((told.filter fun p => decide (p.2 = m')).map (·.1)).length ≤ 256 := by
      rw [List.length_map]
      exact Nat.le_trans (List.length_filter_le _ _) tl
    rw [lineR_of (by omega), Rt.ok_bind]
    have fk : (told.filter fun p => decide (p.2 = m')).map (·.1) = (keys told).filter fun y => decide (S w rows y = m') := by
      rw [keys, List.filter_map]
      congr 1
      apply List.filter_congr
      intro p hp
      simp only [Function.comp]
      rw [(val p hp).2]
    rw [fk] at fl ⊢
    rw [sortR_rows (fun y hy => ?_) (by omega)]
    · simp only [Rt.ok_bind]
      congr 2
      refine sort_eq_rows (Aperm.symm.filter _) ?_
      exact ((A_sorted r0).filter _).imp fun {a b} h => List.le_of_lt h
    · have := (e3 y).mp (List.mem_filter.mp hy).1
      intro z
      rw [z] at this
      have := this.length_eq
      rw [H.bl] at this
      have := H.n0
      simp at *
      omega
  · unfold t__law_medians
    have ex : ∀ x ∈ rows, ∃ kv2, t__law_off x w.s = .ok kv2 ∧ ∀ y, y.Perm base → lk kv2 y = some (dst w x y) := fun x hx => by
      obtain ⟨_, kv2, _, h1, h2, _⟩ := dst_ok H w (H.p x hx)
      exact ⟨kv2, h1, fun y hy => (h2 y hy).2.1⟩
    let off := fun x : Row => match t__law_off x w.s with
      | .ok kv => kv
      | _ => []
    have offe : ∀ x ∈ rows, t__law_off x w.s = .ok (off x) ∧ ∀ y, y.Perm base → lk (off x) y = some (dst w x y) := fun x hx => by
      obtain ⟨kv2, h1, h2⟩ := ex x hx
      have : off x = kv2 := by
        show (match t__law_off x w.s with
          | .ok kv => kv
          | _ => []) = kv2
        rw [h1]
      rw [this]
      exact ⟨h1, h2⟩
    have l6 := H.l6
    rw [lcT_map (g := off) _ fun x hx => (offe x hx).1, Rt.ok_bind, lineR_of (by rw [List.length_map]; omega), Rt.ok_bind]
    have ix0 : ixR rows 0 = .ok r0 := by
      rw [er]
      exact ixR_nat (i := 0) (by simp)
    rw [ix0, Rt.ok_bind, all_ok (by rw [hr0.length_eq, H.bl]; exact H.n4), Rt.ok_bind]
    show (Rt.bind (Rt.bind (lcT (A r0) _ _) lineR) _) = _
    rw [lcT_map (g := S w rows) (A r0) fun y hy => ?_]
    · rw [Rt.ok_bind, lineR_of (by rw [List.length_map]; omega), Rt.ok_bind, m1]
      simp only [Rt.ok_bind]
      have z : (A r0).zip ((A r0).map (S w rows)) = (A r0).map fun y => (y, S w rows y) := by
        have gz : ∀ l : List Row, l.zip (l.map (S w rows)) = l.map fun y => (y, S w rows y) := by
          intro l
          induction l with
          | nil => rfl
          | cons a l ih => rw [List.map_cons, List.zip_cons_cons, ih, List.map_cons]
        exact gz _
      rw [lcT_ok (P := fun p : Row × Int => decide (p.2 = m')) (g := fun p : Row × Int => p.1) _ (fun _ _ => rfl) fun _ _ _ => rfl]
      show (Rt.bind (Rt.bind (Rt.bind (.ok ((((A r0).zip ((A r0).map (S w rows))).filter fun p => decide (p.2 = m')).map fun p => p.1)) lineR) fun x => .ok x) fun x => .ok (m', x)) = _
      rw [z]
      simp only [Rt.ok_bind]
      rw [List.filter_map, List.map_map]
      rw [lineR_of (by rw [List.length_map]; exact Nat.le_trans (List.length_filter_le _ _) (by omega))]
      simp only [Rt.ok_bind]
      congr 2
      exact List.map_id _
    · have hy' := (memA y).mp hy
      rw [lcT_map (g := fun kv => (lk kv y).getD 0) _ fun kv hkv => by
        obtain ⟨x, hx, rfl⟩ := List.mem_map.mp hkv
        rw [dGetR_some ((offe x hx).2 y hy'), (offe x hx).2 y hy']
        rfl]
      rw [Rt.ok_bind, lineR_of (by rw [List.length_map, List.length_map]; omega), Rt.ok_bind, List.map_map, S]
      congr 2
      apply List.map_congr_left
      intro x hx
      simp only [Function.comp]
      rw [(offe x hx).2 y hy']
      rfl
end
end G

set_option maxRecDepth 100000
set_option maxHeartbeats 4000000
/-! P73i: distances from one to another one: the mean, the widest -/
namespace Ty
open Ev
section
variable {α β γ σ : Type}
theorem enumT_eq (z : α) : ∀ (xs : List α) (k : Nat), enumT k xs = (List.range xs.length).map fun i => (((k + i : Nat) : Int), xs.getD i z)
  | [], _ => rfl
  | x :: r, k => by
    rw [enumT, enumT_eq z r (k + 1), List.length_cons, List.range_succ_eq_map, List.map_cons, List.map_map]
    refine congr (congrArg _ rfl) (List.map_congr_left fun i _ => ?_)
    simp only [Function.comp, List.getD_cons_succ]
    congr 2
    omega
theorem forT_nest {f : σ → α → Rt σ} {g : σ → γ → σ} {l : α → List γ} : ∀ (xs : List α) (s : σ), (∀ x ∈ xs, ∀ s, f s x = .ok ((l x).foldl g s)) → forT xs s f = .ok ((xs.flatMap l).foldl g s)
  | [], s, _ => rfl
  | x :: r, s, h => by
    rw [forT, h x List.mem_cons_self, Rt.ok_bind, forT_nest r _ fun y hy => h y (List.mem_cons_of_mem _ hy), List.flatMap_cons, List.foldl_append]
theorem forT_filter {f : σ → α → Rt σ} {g : σ → γ → σ} {p : α → Bool} {q : α → γ} : ∀ (xs : List α) (s : σ), (∀ x ∈ xs, ∀ s, f s x = .ok (if p x then g s (q x) else s)) → forT xs s f = .ok (((xs.filter p).map q).foldl g s)
  | [], s, _ => rfl
  | x :: r, s, h => by
    rw [forT, h x List.mem_cons_self, Rt.ok_bind, forT_filter r _ fun y hy => h y (List.mem_cons_of_mem _ hy)]
    cases c : p x with
    | true => rw [List.filter_cons_of_pos c, List.map_cons, List.foldl_cons]; rfl
    | false => rw [List.filter_cons_of_neg (by rw [c]; exact Bool.false_ne_true)]; rfl
end
/-- the greatest, and the first that has it -/
def wstep {β : Type} (s : Int × Option β) (p : Int × β) : Int × Option β := if s.1 < p.1 then (p.1, some p.2) else s
theorem maxI_ge : ∀ (r : List Int) (a : Int), a ≤ maxI a r
  | [], a => Int.le_refl _
  | b :: r, a => by
    rw [maxI]
    have := maxI_ge r (if a < b then b else a)
    split at this <;> split <;> omega
theorem wide_fold {β : Type} : ∀ (l : List (Int × β)) (a : Int) (o : Option β), l.foldl wstep (a, o) = (maxI a (l.map (·.1)), if maxI a (l.map (·.1)) = a then o else (l.find? fun p => decide (p.1 = maxI a (l.map (·.1)))).map (·.2))
  | [], a, o => by simp [maxI]
  | p :: l, a, o => by
    rw [List.foldl_cons, List.map_cons, maxI]
    unfold wstep
    by_cases c : a < p.1
    · simp only [if_pos c]
      have ge := maxI_ge (l.map (·.1)) p.1
      rw [show (fun (s : Int × Option β) (p : Int × β) => if s.1 < p.1 then (p.1, some p.2) else s) = wstep from rfl, wide_fold l p.1 (some p.2)]
      rw [if_neg (show ¬ maxI p.1 (l.map (·.1)) = a by omega)]
      by_cases e : maxI p.1 (l.map (·.1)) = p.1
      · rw [if_pos e, List.find?_cons_of_pos (p := fun q : Int × β => decide (q.1 = maxI p.1 (l.map (·.1)))) (decide_eq_true e.symm)]
        rfl
      · rw [if_neg e, List.find?_cons_of_neg (by simpa using fun z => e z.symm)]
    · simp only [if_neg c]
      rw [show (fun (s : Int × Option β) (p : Int × β) => if s.1 < p.1 then (p.1, some p.2) else s) = wstep from rfl, wide_fold l a o]
      by_cases e : maxI a (l.map (·.1)) = a
      · rw [if_pos e, if_pos e]
      · rw [if_neg e, if_neg e, List.find?_cons_of_neg]
        have ge := maxI_ge (l.map (·.1)) a
        simp only [decide_eq_true_eq]
        omega
theorem find_filter {α : Type} {p : α → Bool} : ∀ l : List α, l.find? p = (l.filter p)[0]?
  | [] => rfl
  | x :: r => by
    cases c : p x with
    | true => rw [List.find?_cons_of_pos c, List.filter_cons_of_pos c]; rfl
    | false => rw [List.find?_cons_of_neg (by rw [c]; exact Bool.false_ne_true), List.filter_cons_of_neg (by rw [c]; exact Bool.false_ne_true), find_filter r]
theorem maxI_mem : ∀ (r : List Int) (a : Int), maxI a r = a ∨ maxI a r ∈ r
  | [], a => .inl rfl
  | b :: r, a => by
    rw [maxI]
    by_cases c : a < b
    · rw [if_pos c]
      rcases maxI_mem r b with h | h
      · rw [h]; exact .inr List.mem_cons_self
      · exact .inr (List.mem_cons_of_mem _ h)
    · rw [if_neg c]
      rcases maxI_mem r a with h | h
      · exact .inl h
      · exact .inr (List.mem_cons_of_mem _ h)
end Ty
namespace G
open PySem PySem.Spec PyProof.Rows L2 Ev Ty
/-- the distances from one to another one, with the indexes -/
def PFi (w : Way) (rows : List Row) (i : Nat) : List (Int × Int × Int) := ((List.range rows.length).filter fun j => !decide (i = j)).map fun j => (dst w (rows.getD i []) (rows.getD j []), ((i : Int), (j : Int)))
def PF (w : Way) (rows : List Row) : List (Int × Int × Int) := (List.range rows.length).flatMap (PFi w rows)
theorem PFi_len (w : Way) (rows : List Row) (i : Nat) : (PFi w rows i).length ≤ rows.length := by
  rw [PFi, List.length_map]
  have := List.length_filter_le (fun j => !decide (i = j)) (List.range rows.length)
  rwa [List.length_range] at this
theorem PF_len (w : Way) (rows : List Row) : (PF w rows).length ≤ rows.length * rows.length := by
  have := flatMap_le (g := PFi w rows) (k := rows.length) (List.range rows.length) fun i _ => PFi_len w rows i
  rwa [List.length_range] at this
section
variable {K : Int} {n : Nat} {base : Row} {rows : List Row} (H : RowsOk K n base rows) (w : Way)
include H
theorem getD_perm {i : Nat} (hi : i < rows.length) : (rows.getD i []).Perm base := by
  rw [List.getD_eq_getElem?_getD, List.getElem?_eq_getElem hi]
  exact H.p _ (List.getElem_mem hi)
omit H in
theorem ixR_getD {i : Nat} (hi : i < rows.length) : ixR rows (i : Int) = .ok (rows.getD i []) := by
  rw [ixR_nat hi, List.getD_eq_getElem?_getD, List.getElem?_eq_getElem hi]
  rfl
theorem PF_mem {p : Int × Int × Int} (hp : p ∈ PF w rows) : 0 ≤ p.1 ∧ p.1 < 256 ∧ (0 ≤ p.2.1 ∧ p.2.1 < 6) ∧ (0 ≤ p.2.2 ∧ p.2.2 < 6) := by
  unfold PF PFi at hp
  obtain ⟨i, hi, hp⟩ := List.mem_flatMap.mp hp
  obtain ⟨j, hj, rfl⟩ := List.mem_map.mp hp
  have hi := List.mem_range.mp hi
  have hj := List.mem_range.mp (List.mem_filter.mp hj).1
  obtain ⟨_, _, _, _, d, _⟩ := dst_ok H w (getD_perm H hi)
  have d := d _ (getD_perm H hj)
  have := H.l6
  exact ⟨d.2.2.1, d.2.2.2, by simp only; omega, by simp only; omega⟩
theorem pair_far_ok : t__law_pair_far rows w.s = .ok (PF w rows) := by
  unfold t__law_pair_far
  have l6 := H.l6
  rw [lineR_of (by simp)]
  simp only [Rt.ok_bind]
  rw [rngR1_of (by omega)]
  simp only [Rt.ok_bind]
  have := forT_app (M := 1000) (f := fun (s_1079 : (List (Int × (Int × Int)))) (x_1080 : Int) => (Rt.bind (Rt.bind (Rt.bind (ixR rows x_1080) fun x_1083 => .ok (x_1083, w.s)) fun x => t__law_off x.1 x.2) fun off_1085 => (Rt.bind (Rt.bind (Rt.bind (.ok ((List.range rows.length).map fun (i : Nat) => (i : Int))) fun xs_1099 => Rt.bind (lcT xs_1099 (fun (x_1088 : Int) => (.ok (!decide (x_1088 = x_1080)))) (fun (x_1088 : Int) => (Rt.bind (Rt.bind (ixR rows x_1088) fun x_1094 => dGetR off_1085 x_1094) fun x_1097 => .ok (x_1097, (x_1080, x_1088))))) lineR) fun x_1101 => catR s_1079 x_1101) fun found_1102 => (.ok found_1102))))
    (g := fun i : Int => PFi w rows i.toNat) ((List.range rows.length).map fun (i : Nat) => (i : Int)) [] (fun i hi s hs => by
      obtain ⟨i, hi', rfl⟩ := List.mem_map.mp hi
      replace hi := List.mem_range.mp hi'
      rw [Int.toNat_natCast] at hs ⊢
      obtain ⟨_, kv2, _, h1, h2, _⟩ := dst_ok H w (getD_perm H hi)
      rw [ixR_getD hi]
      simp only [Rt.ok_bind]
      rw [h1]
      simp only [Rt.ok_bind]
      rw [lcT_ok (P := fun j : Int => !decide (j = (i : Int))) (g := fun j : Int => (dst w (rows.getD i []) (rows.getD j.toNat []), ((i : Int), j))) _ (fun _ _ => rfl) (fun j hj _ => by
        obtain ⟨j, hj', rfl⟩ := List.mem_map.mp hj
        replace hj := List.mem_range.mp hj'
        rw [ixR_getD hj, Rt.ok_bind, dGetR_some (h2 _ (getD_perm H hj)).2.1, Rt.ok_bind, Int.toNat_natCast])]
      have e : ((((List.range rows.length).map fun (j : Nat) => (j : Int)).filter fun j => !decide (j = (i : Int))).map fun j => (dst w (rows.getD i []) (rows.getD j.toNat []), ((i : Int), j))) = PFi w rows i := by
        unfold PFi
        rw [List.filter_map, List.map_map]
        have : ((fun j : Int => !decide (j = (i : Int))) ∘ fun (j : Nat) => (j : Int)) = fun j => !decide (i = j) := by
          funext j
          simp only [Function.comp]
          congr 1
          exact decide_eq_decide.mpr (by omega)
        rw [this]
        rfl
      rw [e]
      have := PFi_len w rows i
      simp only [Rt.ok_bind]
      rw [lineR_of (by omega)]
      simp only [Rt.ok_bind]
      rw [catR_of (by omega)]
      rfl) (by
        rw [List.flatMap_map]
        simp only [Int.toNat_natCast, List.length_nil]
        have := PF_len w rows
        have : rows.length * rows.length ≤ 6 * 6 := Nat.mul_le_mul l6 l6
        have e : ((List.range rows.length).flatMap fun a => PFi w rows a) = PF w rows := rfl
        rw [e]
        omega)
  simp only [Rt.ok_bind] at this ⊢
  rw [this, List.flatMap_map]
  simp only [Int.toNat_natCast, List.nil_append, Rt.ok_bind]
  rfl
theorem widest_ok : t_widest_by rows w.s = .ok ((PF w rows).foldl wstep (0, none)) := by
  unfold t_widest_by
  rw [Rt.ok_bind, enumT_eq ([] : Row)]
  simp only [Nat.zero_add]
  rw [forT_nest (g := wstep) (l := fun x : Int × Row => PFi w rows x.1.toNat) _ _ fun x hx s => ?_]
  · rw [Rt.ok_bind, List.flatMap_map]
    simp only [Int.toNat_natCast]
    rfl
  · obtain ⟨i, hi, rfl⟩ := List.mem_map.mp hx
    have hi := List.mem_range.mp hi
    obtain ⟨kv, _, h1, _, h2, _⟩ := dst_ok H w (getD_perm H hi)
    simp only
    rw [h1, Rt.ok_bind, forT_filter (g := wstep) (p := fun y : Int × Row => !decide ((i : Int) = y.1)) (q := fun y => (dst w (rows.getD i []) y.2, ((i : Int), y.1))) _ _ fun y hy s => ?_]
    · rw [Rt.ok_bind, Int.toNat_natCast]
      congr 1
      unfold PFi
      rw [List.filter_map, List.map_map]
      have : ((fun y : Int × Row => !decide ((i : Int) = y.1)) ∘ fun (j : Nat) => ((j : Int), rows.getD j [])) = fun j => !decide (i = j) := by
        funext j
        simp only [Function.comp]
        congr 1
        exact decide_eq_decide.mpr (by omega)
      rw [this]
      rfl
    · obtain ⟨j, hj, rfl⟩ := List.mem_map.mp hy
      have hj := List.mem_range.mp hj
      simp only
      rw [dGetR_some (h2 _ (getD_perm H hj)).1]
      simp only [Rt.ok_bind]
      cases c : !decide ((i : Int) = (j : Int)) with
      | false => simp only [cond_false, Rt.ok_bind]; rfl
      | true =>
        simp only [cond_true, Rt.ok_bind, if_true]
        unfold wstep
        by_cases d : s.1 < dst w (rows.getD i []) (rows.getD j [])
        · rw [decide_eq_true d, cond_true, if_pos d]
          rfl
        · rw [decide_eq_false d, cond_false, if_neg d]
          rfl
theorem mean_told : lcT2 (enumT 0 rows) (fun _ => .ok true) (fun _ => .ok (enumT 0 rows)) (fun (x : (Int × Row)) (y : (Int × Row)) => (.ok (!decide (x.1 = y.1)))) (fun (x : (Int × Row)) (y : (Int × Row)) => (Rt.bind (t_far_from x.2 w.s) fun kv => dGetR kv y.2)) = .ok ((PF w rows).map (·.1)) := by
  rw [enumT_eq ([] : Row)]
  simp only [Nat.zero_add]
  rw [lcT2_ok (es := fun _ => (List.range rows.length).map fun (i : Nat) => ((i : Int), rows.getD i [])) (P := fun x y : Int × Row => !decide (x.1 = y.1)) (g := fun x y : Int × Row => dst w x.2 y.2) _ (fun _ _ => rfl) (fun _ _ => rfl) (fun _ _ _ _ => rfl) (fun x hx y hy _ => by
    obtain ⟨i, hi, rfl⟩ := List.mem_map.mp hx
    obtain ⟨j, hj, rfl⟩ := List.mem_map.mp hy
    obtain ⟨kv, _, h1, _, h2, _⟩ := dst_ok H w (getD_perm H (List.mem_range.mp hi))
    rw [h1, Rt.ok_bind, dGetR_some (h2 _ (getD_perm H (List.mem_range.mp hj))).1])]
  congr 1
  rw [List.flatMap_map, PF, List.map_flatMap]
  congr 1
  funext i
  rw [PFi, List.filter_map, List.map_map, List.map_map]
  have : ((fun y : Int × Row => !decide ((i : Int) = y.1)) ∘ fun (j : Nat) => ((j : Int), rows.getD j [])) = fun j => !decide (i = j) := by
    funext j
    simp only [Function.comp]
    congr 1
    exact decide_eq_decide.mpr (by omega)
  simp only at this ⊢
  rw [this]
  rfl
end
/-! ### lowest terms -/
theorem euclid : ∀ (k : Nat) (a b : Nat), b < k → whileT k (fun (s : (Int × Int)) => (.ok (decide ((0 : Int) < s.2)))) (fun (s : (Int × Int)) => (Rt.bind (Rt.bind (modR s.1 s.2) fun x => .ok (s.2, x)) fun s => (.ok (s.1, s.2)))) ((a : Int), (b : Int)) = .ok (((Nat.gcd b a : Nat) : Int), 0)
  | 0, a, b, h => absurd h (Nat.not_lt_zero _)
  | k + 1, a, b, h => by
    rw [whileT]
    by_cases hb : b = 0
    · subst hb
      rw [decide_eq_false (by simp)]
      simp only [Rt.ok_bind, cond_false, Nat.gcd_zero_left]
      rfl
    · rw [decide_eq_true (by simp only; omega)]
      simp only [Rt.ok_bind, cond_true]
      have hm : modR (a : Int) (b : Int) = .ok ((a % b : Nat) : Int) := by
        rw [modR, decide_eq_true (by omega)]
        simp only [Int.natCast_emod]
      rw [hm]
      simp only [Rt.ok_bind]
      rw [euclid k b (a % b) (by have := Nat.mod_lt a (Nat.pos_of_ne_zero hb); omega), ← Nat.gcd_rec]
theorem lowest_ok {a b : Nat} (hb : 0 < b) (hb2 : b < 900) : t_lowest (a : Int) (b : Int) = .ok ((a : Int) / (Nat.gcd b a : Nat), (b : Int) / (Nat.gcd b a : Nat)) ∧ t__law_lowest (a : Int) (b : Int) = .ok ((a : Int) / (Nat.gcd b a : Nat), (b : Int) / (Nat.gcd b a : Nat)) := by
  have g0 : 0 < Nat.gcd b a := Nat.gcd_pos_of_pos_left a hb
  have g1 : Nat.gcd b a ≤ b := Nat.gcd_le_left a hb
  have dv : ∀ x : Int, divR x ((Nat.gcd b a : Nat) : Int) = .ok (x / (Nat.gcd b a : Nat)) := fun x => by
    rw [divR, decide_eq_true (by omega), show szD ((Nat.gcd b a : Nat) : Int) = true from Nat.ble_eq_true_of_le (by omega)]
    rfl
  constructor
  · unfold t_lowest
    rw [decide_eq_true (by omega), cond_true]
    simp only [Rt.ok_bind, Int.natAbs_natCast]
    rw [Nat.gcd_comm a b, dv, dv]
    rfl
  · unfold t__law_lowest
    simp only [Rt.ok_bind]
    rw [euclid 1000 a b (by omega)]
    simp only [Rt.ok_bind]
    rw [dv, dv]
    rfl
end G

set_option maxRecDepth 100000
set_option maxHeartbeats 4000000
/-! P73j: whatever is drawn -/
namespace Ty
open PySem PySem.Spec PyProof.Rows L2 Ev
section
variable {τ α β σ : Type}
theorem wb {w : W τ α} {v : α → W τ β} {s : τ} {Q : β → τ → Prop} {E : Ex → τ → Prop} (h : w s (fun a s' => v a s' Q E) E) : W.bind w v s Q E := h
theorem wok' {a : α} {s : τ} {Q : α → τ → Prop} {E : Ex → τ → Prop} (h : Q a s) : W.ok a s Q E := h
theorem of_eq {t : Rt α} {a : α} {s : τ} {Q : α → τ → Prop} {E : Ex → τ → Prop} (h : t = .ok a) (q : Q a s) : W.of t s Q E := by
  rw [h]
  exact q
theorem wof {t : Rt α} {a : α} {v : α → W τ β} {s : τ} {Q : β → τ → Prop} {E : Ex → τ → Prop} (h : t = .ok a) (q : v a s Q E) : W.bind (W.of t) v s Q E := wb (of_eq h q)
theorem draw_ok {top : Int} {s : Unit} {Q : Int → Unit → Prop} {E : Ex → Unit → Prop} (h1 : 0 < top) (h2 : top < 1073741824) (h : ∀ r, 0 ≤ r → r < top → Q r s) : drawW top s Q E := ⟨h1, h2, h⟩
theorem lcW_draws {top : Int} (h1 : 0 < top) (h2 : top < 1073741824) : ∀ (xs : List α) (s : Unit) (Q : List Int → Unit → Prop) (E : Ex → Unit → Prop), (∀ ys : List Int, ys.length = xs.length → (∀ v ∈ ys, 0 ≤ v ∧ v < top) → Q ys s) → lcW xs (fun _ => .ok true) (fun _ => drawW top) s Q E
  | [], s, Q, E, h => h [] rfl fun _ hv => by cases hv
  | x :: r, s, Q, E, h => by
    show drawW top s (fun v s' => W.bind (lcW r (fun _ => .ok true) (fun _ => drawW top)) (fun ys => W.ok (v :: ys)) s' Q E) E
    refine draw_ok h1 h2 fun v v0 v1 => wb ?_
    exact lcW_draws h1 h2 r s _ E fun ys hl hy => h (v :: ys) (by simp [hl]) fun u hu => by
      rcases List.mem_cons.mp hu with rfl | hu
      · exact ⟨v0, v1⟩
      · exact hy u hu
theorem seqIndex_nat {i n : Nat} (h : i < n) : seqIndex? (i : Int) n = some i := by
  unfold seqIndex?
  have h1 : ¬ (i : Int) < 0 := by omega
  have h2 : (0 : Int) ≤ (i : Int) ∧ (i : Int) < (n : Int) := by omega
  simp [h1, h2, h]
end
end Ty
namespace G
open PySem PySem.Spec PyProof.Rows L2 Ev Ty
theorem row_ok {s : Unit} {Q : Int × Row → Unit → Prop} {E : Ex → Unit → Prop} (h : ∀ (K : Int) (row : Row), 2 ≤ K ∧ K ≤ 4 → 0 < row.length → row.length ≤ 4 → (∀ v ∈ row, 0 ≤ v ∧ v < K) → Q (K, row) s) : t__law_row () 4 s Q E := by
  unfold t__law_row
  refine wb (wb (draw_ok (top := 3) (by decide) (by decide) fun k k0 k1 => ?_))
  refine wb (wb (wb (wb (wb (draw_ok (top := 4) (by decide) (by decide) fun l l0 l1 => ?_)))))
  obtain ⟨m, rfl⟩ : ∃ m : Nat, l = (m : Int) := ⟨l.toNat, by omega⟩
  refine wok' ?_
  refine of_eq (a := (List.range (1 + m)).map fun (i : Nat) => (i : Int)) ?_ ?_
  · rw [show (1 : Int) + (m : Int) = ((1 + m : Nat) : Int) by omega, rngR1_of (by omega)]
  refine wb (lcW_draws (top := 2 + k) (by omega) (by omega) ((List.range (1 + m)).map fun (i : Nat) => (i : Int)) s (fun ys s' => W.of (lineR ys) s' (fun a s' => W.ok a s' (fun a s' => W.ok (2 + k, a) s' Q E) E) E) (fun _ _ => False) fun ys hl hy => ?_)
  rw [List.length_map, List.length_range] at hl
  refine of_eq (lineR_of (by omega)) ?_
  exact h (2 + k) ys (by omega) (by omega) (by omega) hy
theorem way_ok {s : Unit} {Q : Str → Unit → Prop} {E : Ex → Unit → Prop} (h : ∀ w : Way, Q w.s s) : t__law_way () s Q E := by
  unfold t__law_way
  refine wb ?_
  refine of_eq (a := ((), (["any", "near", "move", "front"] : List Str))) rfl ?_
  unfold t__law_pull
  refine wb (draw_ok (top := 4) (by decide) (by decide) fun r r0 r1 => ?_)
  have r1' : r < 4 := r1
  have : r = 0 ∨ r = 1 ∨ r = 2 ∨ r = 3 := by omega
  rcases this with rfl | rfl | rfl | rfl
  · exact of_eq rfl (h .any)
  · exact of_eq rfl (h .near)
  · exact of_eq rfl (h .move)
  · exact of_eq rfl (h .front)
theorem erase_perm : ∀ (l : Row) (i : Nat) (h : i < l.length), (l[i] :: l.eraseIdx i).Perm l
  | x :: l, 0, _ => List.Perm.refl _
  | x :: l, i + 1, h => by
    rw [List.eraseIdx_cons_succ, List.getElem_cons_succ]
    exact (List.Perm.swap x _ _).trans (List.Perm.cons x (erase_perm l i (by simpa using h)))
theorem mixed_ok {row : Row} {s : Unit} {Q : Row → Unit → Prop} {E : Ex → Unit → Prop} (hl : row.length ≤ 900) (h : ∀ r : Row, r.Perm row → Q r s) : t__law_mixed () row s Q E := by
  unfold t__law_mixed
  refine wb (of_eq (a := (row, [])) rfl ?_)
  have l0 : lineR ([] : List Int) = .ok [] := rfl
  have key : ∀ (k : Nat) (left found : Row) (Q' : Row × Row → Unit → Prop), left.length < k → found.length + left.length ≤ 900 → (∀ r : Row, r.Perm (found ++ left) → Q' ([], r) s) →
      whileW k (fun (s_108 : (Row × Row)) => (W.of (Rt.bind (lineR ([] : List Int)) fun x_109 => (.ok (negB true (decide (s_108.1 = x_109))))))) (fun (s_108 : (Row × Row)) => (W.bind (W.bind (t__law_take () (s_108.1.length : Int)) fun x_117 => W.of (Rt.bind (popAt s_108.1 x_117) fun p => Rt.bind (apR s_108.2 p.1) fun zs => .ok (p.2, zs))) fun s_116 => (W.ok (s_116.1, s_116.2)))) (left, found) s Q' E := by
    intro k
    induction k with
    | zero => exact fun left found Q' h1 => absurd h1 (Nat.not_lt_zero _)
    | succ k ih =>
      intro left found Q' h1 h2 hq
      cases left with
      | nil =>
        rw [whileW]
        refine wb (of_eq (a := false) rfl ?_)
        exact hq found (by simp)
      | cons a t =>
        rw [whileW]
        refine wb (of_eq (a := true) rfl ?_)
        refine wb (wb (wb (draw_ok (by rw [List.length_cons]; omega) (by rw [List.length_cons] at *; omega) fun r r0 r1 => ?_)))
        obtain ⟨i, rfl⟩ : ∃ i : Nat, r = (i : Int) := ⟨r.toNat, by omega⟩
        have hi : i < (a :: t).length := by
          have r1' : (i : Int) < ((a :: t).length : Int) := r1
          omega
        refine of_eq (a := ((a :: t).eraseIdx i, found ++ [(a :: t)[i]])) ?_ ?_
        · show (Rt.bind (popAt (a :: t) (i : Int)) fun p => Rt.bind (apR found p.1) fun zs => .ok (p.2, zs)) = _
          unfold popAt
          rw [szB_of (by have := h2; rw [List.length_cons] at *; omega), seqIndex_nat hi]
          simp only [List.getElem?_eq_getElem hi]
          simp only [Rt.ok_bind]
          rw [apR_of (by omega)]
          rfl
        · have el : ((a :: t).eraseIdx i).length = t.length := by
            rw [List.length_eraseIdx_of_lt hi, List.length_cons]
            omega
          refine ih _ _ Q' (by rw [el]; rw [List.length_cons] at h1; omega) (by rw [el, List.length_append]; rw [List.length_cons] at h2; simp only [List.length_singleton]; omega) fun r hr => hq r (hr.trans ?_)
          rw [List.append_assoc]
          exact List.Perm.append_left found (erase_perm (a :: t) i hi)
  exact wb (key 1000 row [] _ (by omega) (by simpa using hl) fun r hr => h r (by simpa using hr))
/-! ### what is shown -/
theorem sm_row {x : Row} (h : ∀ v ∈ x, 0 ≤ v ∧ v < 4) (hl : x.length ≤ 4) : Sm 168 (CEq.p (cT cI) x) :=
  sm_tuple (W := 41) (k := 4) (fun p hp => by
    obtain ⟨v, hv, rfl⟩ := List.mem_map.mp hp
    exact sm_int (by have := h v hv; omega)) (by rw [List.length_map]; exact hl)
theorem two_shown {α : Type} [DecidableEq α] (c : Cd α) [CEq c] {a : α} {V : Nat} (h : Sm V (CEq.p c a)) (hV : 2 * (V + 1) ≤ 2 ^ 20) (hd : CEq.dep c ≤ 19) : ∃ t, reprR (CEq.p (cL c) [a, a]) = .ok t := by
  refine ⟨_, reprR_sm ?_ ?_⟩
  · exact (sm_list (W := V) (k := 2) (ps := [CEq.p c a, CEq.p c a]) (fun p hp => by
      rcases List.mem_cons.mp hp with rfl | hp
      · exact h
      · rw [List.mem_singleton.mp hp]; exact h) (Nat.le_refl _)).le hV
  · exact Nat.le_trans (CEq.dle (c := cL c) [a, a]) (show CEq.dep c + 1 ≤ 20 by omega)
theorem sm_pair {W : Nat} {p q : PyData} (hp : Sm W p) (hq : Sm W q) : Sm (2 * (W + 1)) (.tuple [p, q]) := sm_tuple (fun r hr => by
  rcases List.mem_cons.mp hr with rfl | hr
  · exact hp
  · rw [List.mem_singleton.mp hr]; exact hq) (Nat.le_refl _)
theorem right_ok (s : Unit) (E : Ex → Unit → Prop) : t__law_right () s (fun b _ => b = true) E := by
  unfold t__law_right
  refine wb (row_ok fun K base hK h0 h4 hv => ?_)
  refine wb (wb (way_ok fun w => ?_))
  refine wof (a := [base]) (lineR_of (by simp)) ?_
  refine wb (wb (wb (draw_ok (top := 6) (by decide) (by decide) fun t t0 t1 => ?_)))
  obtain ⟨t, rfl⟩ : ∃ m : Nat, t = (m : Int) := ⟨t.toNat, by omega⟩
  refine of_eq (a := (List.range t).map fun (i : Nat) => (i : Int)) (rngR1_of (by omega)) ?_
  -- the rows
  have rows_ok : ∀ (xs : List Int) (rows : List Row) (Q : List Row → Unit → Prop), rows.length + xs.length ≤ 6 → rows ≠ [] → (∀ x ∈ rows, x.Perm base) → (∀ rows' : List Row, rows'.length ≤ 6 → rows' ≠ [] → (∀ x ∈ rows', x.Perm base) → Q rows' s) →
      forW xs rows (fun (s_1313 : List Row) (x_1314 : Int) => (W.bind (W.bind (W.bind (W.bind (W.bind (W.bind (t__law_take () (4 : Int)) fun x_1317 => (W.ok (decide ((0 : Int) < x_1317)))) fun k_1321 => W.cond k_1321 (t__law_mixed () base) (W.of (.ok base))) fun x_1322 => W.ok (x_1322 :: ([] : List Row))) fun xs => W.of (lineR xs)) fun x_1325 => (W.of (catR s_1313 x_1325))) fun rows_1326 => (W.ok rows_1326))) s Q E := by
    intro xs
    induction xs with
    | nil => exact fun rows Q h1 h2 h3 hq => hq rows (by simpa using h1) h2 h3
    | cons x xs ih =>
      intro rows Q h1 h2 h3 hq
      rw [List.length_cons] at h1
      refine wb (wb (wb (wb (wb (wb (wb (wb (draw_ok (top := 4) (by decide) (by decide) fun u u0 u1 => ?_))))))))
      have go : ∀ r : Row, r.Perm base → (W.bind (W.bind (W.bind (W.ok (r :: ([] : List Row))) fun xs => W.of (lineR xs)) fun x_1325 => (W.of (catR rows x_1325))) fun b => forW xs b (fun (s_1313 : List Row) (x_1314 : Int) => (W.bind (W.bind (W.bind (W.bind (W.bind (W.bind (t__law_take () (4 : Int)) fun x_1317 => (W.ok (decide ((0 : Int) < x_1317)))) fun k_1321 => W.cond k_1321 (t__law_mixed () base) (W.of (.ok base))) fun x_1322 => W.ok (x_1322 :: ([] : List Row))) fun xs => W.of (lineR xs)) fun x_1325 => (W.of (catR s_1313 x_1325))) fun rows_1326 => (W.ok rows_1326)))) s Q E := fun r hr => by
        refine wb (wb (wb (wok' ?_)))
        refine of_eq (a := [r]) (lineR_of (by simp)) ?_
        refine of_eq (a := rows ++ [r]) (catR_of (by simp only [List.length_singleton]; omega)) ?_
        refine ih (rows ++ [r]) Q (by rw [List.length_append, List.length_singleton]; omega) (by simp) (fun z hz => ?_) hq
        rcases List.mem_append.mp hz with hz | hz
        · exact h3 z hz
        · rw [List.mem_singleton.mp hz]; exact hr
      by_cases hu : (0 : Int) < u
      · show W.cond (decide ((0 : Int) < u)) (t__law_mixed () base) (W.of (.ok base)) s _ E
        rw [decide_eq_true hu]
        exact mixed_ok (by omega) go
      · show W.cond (decide ((0 : Int) < u)) (t__law_mixed () base) (W.of (.ok base)) s _ E
        rw [decide_eq_false hu]
        exact go base (List.Perm.refl _)
  refine wb (rows_ok _ _ _ (by rw [List.length_map, List.length_range]; simp only [List.length_cons, List.length_nil]; omega) (by simp) (fun x hx => by rw [List.mem_singleton.mp hx]) fun rows l6 ne hp => ?_)
  have H : RowsOk K base.length base rows := ⟨hK, h0, h4, rfl, hv, ne, l6, hp⟩
  have ck := check_rows_ok H w
  -- the medians
  obtain ⟨m, r0, hr0, mb, e1, e2⟩ := medians_ok H w
  have em : t_medians K rows w.s = .ok (m, (A r0).filter fun y => decide (S w rows y = m)) := by
    unfold t_medians
    rw [ck]
    exact e1
  refine wof e2 ?_
  have s1 : Sm (2 * (256 * 169 + 1)) (CEq.p (cP (qc cI (q1 (cT (cT cI))))) (m, (A r0).filter fun y => decide (S w rows y = m))) := by
    refine sm_pair ((sm_int (by omega)).le (by decide)) ?_
    refine sm_tuple (W := 168) (k := 256) (fun p hp => ?_) ?_
    · obtain ⟨y, hy, rfl⟩ := List.mem_map.mp hp
      have hy' := ((mem_A y).mp (List.mem_filter.mp hy).1).trans hr0
      exact sm_row (H.k4 hy') (by rw [hy'.length_eq]; exact h4)
    · rw [List.length_map]
      exact Nat.le_trans (List.length_filter_le _ _) (A_len H hr0)
  obtain ⟨t1', rp1⟩ := two_shown _ s1 (by decide) (by decide)
  refine wof (a := false) ?_ ?_
  · show (Rt.bind (Rt.bind (Rt.bind (Rt.bind (t_medians K rows w.s) _) _) _) _) = _
    rw [em]
    simp only [Rt.ok_bind]
    rw [lineR_of (by simp)]
    simp only [Rt.ok_bind]
    rw [rp1]
    simp only [Rt.ok_bind, decide_true, Bool.not_true]
  -- the mean
  show W.bind (W.of (t__law_pair_far rows w.s)) _ s _ E
  refine wof (pair_far_ok H w) ?_
  have pl : (PF w rows).length ≤ 36 := Nat.le_trans (PF_len w rows) (Nat.mul_le_mul l6 l6)
  have mp := fun p hp => PF_mem H w (p := p) hp
  refine wof (a := ((PF w rows).map (·.1)).sum) ?_ ?_
  · rw [lcT_map (g := fun p : Int × Int × Int => p.1) _ fun _ _ => rfl]
    simp only [Rt.ok_bind]
    rw [lineR_of (by rw [List.length_map]; omega)]
    rfl
  have sb : ∀ l : List (Int × Int × Int), (∀ p ∈ l, 0 ≤ p.1 ∧ p.1 < 256) → 0 ≤ (l.map (·.1)).sum ∧ (l.map (·.1)).sum ≤ 256 * l.length := by
    intro l
    induction l with
    | nil => exact fun _ => ⟨Int.le_refl _, Int.le_refl _⟩
    | cons p l ih =>
      intro hl
      have := hl p List.mem_cons_self
      have := ih fun q hq => hl q (List.mem_cons_of_mem _ hq)
      rw [List.map_cons, List.sum_cons, List.length_cons]
      push_cast
      omega
  have sb := sb (PF w rows) fun p hp => ⟨(mp p hp).1, (mp p hp).2.1⟩
  obtain ⟨whole, hw⟩ : ∃ a : Nat, ((PF w rows).map (·.1)).sum = (a : Int) := ⟨((PF w rows).map fun p : Int × Int × Int => p.1).sum.toNat, by omega⟩
  -- what both tell
  have part_ok : ∃ part : Option (Int × Int), t_mean_far K rows w.s = .ok part ∧ Sm 84 (CEq.p (cO (cP (qc cI (q1 cI)))) part) ∧ (Rt.bind (Rt.bind (lineR ([] : List (Int × (Int × Int)))) fun x_1362 => (.ok (!decide (PF w rows = x_1362)))) fun k_1442 => cond k_1442 (Rt.bind (cond (decide ((0 : Int) < ((PF w rows).map (·.1)).sum)) (Rt.bind (t__law_lowest ((PF w rows).map (·.1)).sum ((PF w rows).length : Int)) fun x_1370 => (.ok (some x_1370))) (.ok (some ((0 : Int), (1 : Int))))) fun part_1373 => (.ok part_1373)) (.ok (none : Option (Int × Int)))) = .ok part := by
    have mf : t_mean_far K rows w.s = (Rt.bind (Rt.bind (lineR ([] : List Int)) fun x => (.ok (!decide (((PF w rows).map fun p : Int × Int × Int => p.1) = x)))) fun k => cond k (Rt.bind (t_lowest ((PF w rows).map (fun p : Int × Int × Int => p.1)).sum ((PF w rows).map (fun p : Int × Int × Int => p.1)).length) fun x => (.ok (some x))) (.ok (none : Option (Int × Int)))) := by
      unfold t_mean_far
      rw [ck]
      simp only [Rt.ok_bind]
      unfold t_mean_by
      rw [mean_told H w]
      simp only [Rt.ok_bind]
      rw [lineR_of (by rw [List.length_map]; omega), Rt.ok_bind]
    rw [mf, lineR_of (by simp), lineR_of (by simp)]
    simp only [Rt.ok_bind, List.length_map]
    by_cases z : PF w rows = []
    · rw [z]
      exact ⟨none, rfl, sm_none.le (by decide), rfl⟩
    · have z' : ¬ (PF w rows).map (·.1) = [] := fun e => z (List.map_eq_nil_iff.mp e)
      rw [decide_eq_false z, decide_eq_false z']
      simp only [Bool.not_false, cond_true]
      have pos : 0 < (PF w rows).length := List.length_pos_iff.mpr z
      rw [hw]
      obtain ⟨l1, l2⟩ := lowest_ok (a := whole) pos (by omega)
      rw [l1]
      simp only [Rt.ok_bind]
      have g0 : 0 < Nat.gcd (PF w rows).length whole := Nat.gcd_pos_of_pos_left _ pos
      have d1 : (0 : Int) ≤ (whole : Int) / (Nat.gcd (PF w rows).length whole : Nat) ∧ (whole : Int) / (Nat.gcd (PF w rows).length whole : Nat) ≤ whole := ⟨Int.ediv_nonneg (by omega) (by omega), Int.ediv_le_self _ (by omega)⟩
      have d2 : (0 : Int) ≤ ((PF w rows).length : Int) / (Nat.gcd (PF w rows).length whole : Nat) ∧ ((PF w rows).length : Int) / (Nat.gcd (PF w rows).length whole : Nat) ≤ (PF w rows).length := ⟨Int.ediv_nonneg (by omega) (by omega), Int.ediv_le_self _ (by omega)⟩
      refine ⟨_, rfl, sm_pair (sm_int (by omega)) (sm_int (by omega)), ?_⟩
      by_cases c : (0 : Int) < (whole : Int)
      · rw [decide_eq_true c, cond_true, l2]
        rfl
      · rw [decide_eq_false c, cond_false]
        have : whole = 0 := by omega
        subst this
        have e0 : ((0 : Nat) : Int) / (Nat.gcd (PF w rows).length 0 : Nat) = 0 := by simp
        have e1 : ((PF w rows).length : Int) / (Nat.gcd (PF w rows).length 0 : Nat) = 1 := by
          rw [Nat.gcd_zero_right]
          exact Int.ediv_self (by omega)
        rw [e0, e1]
        rfl
  obtain ⟨part, p1, p2, p3⟩ := part_ok
  refine wb ?_
  refine wof p3 ?_
  obtain ⟨t2', rp2⟩ := two_shown _ p2 (by decide) (by decide)
  refine wof (a := false) ?_ ?_
  · show (Rt.bind (Rt.bind (Rt.bind (Rt.bind (t_mean_far K rows w.s) _) _) _) _) = _
    rw [p1]
    simp only [Rt.ok_bind]
    rw [lineR_of (by simp)]
    simp only [Rt.ok_bind]
    rw [rp2]
    simp only [Rt.ok_bind, decide_true, Bool.not_true]
  -- the widest
  show W.bind (W.of (Rt.bind (Rt.bind (lineR ((0 : Int) :: ([] : List Int))) _) _)) _ s _ E
  refine wof (a := maxI 0 ((PF w rows).map (·.1))) ?_ ?_
  · rw [lcT_map (g := fun p : Int × Int × Int => p.1) _ fun _ _ => rfl]
    simp only [Rt.ok_bind]
    rw [lineR_of (by simp), lineR_of (by rw [List.length_map]; omega)]
    simp only [Rt.ok_bind]
    rw [catR_of (by rw [List.length_map]; simp only [List.length_singleton]; omega)]
    rfl
  have wd := widest_ok H w
  rw [wide_fold] at wd
  have wk : ∃ wide : Int × Option (Int × Int), t_widest_pair K rows w.s = .ok wide ∧ Sm (2 * (84 + 1)) (CEq.p (cP (qc cI (q1 (cO (cP (qc cI (q1 cI))))))) wide) ∧ (cond (decide (maxI 0 ((PF w rows).map (·.1)) = (0 : Int))) (.ok ((0 : Int), (none : Option (Int × Int)))) (Rt.bind (Rt.bind (Rt.bind (Rt.bind (lcT (PF w rows) (fun (x_1409 : (Int × (Int × Int))) => (.ok (decide (x_1409.1 = maxI 0 ((PF w rows).map (·.1)))))) (fun (x_1409 : (Int × (Int × Int))) => (.ok x_1409.2))) lineR) fun x_1413 => ixR x_1413 (0 : Int)) fun x_1415 => (.ok (some x_1415))) fun x_1417 => .ok (maxI 0 ((PF w rows).map (·.1)), x_1417))) = .ok wide := by
    have wp : t_widest_pair K rows w.s = t_widest_by rows w.s := by
      unfold t_widest_pair
      rw [ck]
      rfl
    rw [wp, wd]
    refine ⟨_, rfl, ?_⟩
    by_cases z : maxI 0 ((PF w rows).map (·.1)) = 0
    · rw [decide_eq_true z, if_pos z, cond_true]
      refine ⟨sm_pair ((sm_int (by rw [z]; decide)).le (by decide)) (sm_none.le (by decide)), by rw [z]⟩
    · rw [decide_eq_false z, if_neg z, cond_false]
      have mm : maxI 0 ((PF w rows).map (·.1)) ∈ (PF w rows).map (·.1) := (maxI_mem _ 0).resolve_left z
      obtain ⟨p, hp, ep⟩ := List.mem_map.mp mm
      have fne : (PF w rows).filter (fun p => decide (p.1 = maxI 0 ((PF w rows).map (·.1)))) ≠ [] := fun e => by
        have : p ∈ (PF w rows).filter fun p => decide (p.1 = maxI 0 ((PF w rows).map (·.1))) := List.mem_filter.mpr ⟨hp, decide_eq_true ep⟩
        rw [e] at this
        cases this
      rw [find_filter]
      obtain ⟨q, r, eq⟩ : ∃ q r, (PF w rows).filter (fun p => decide (p.1 = maxI 0 ((PF w rows).map (·.1)))) = q :: r := by
        cases h : (PF w rows).filter (fun p => decide (p.1 = maxI 0 ((PF w rows).map (·.1)))) with
        | nil => exact absurd h fne
        | cons q r => exact ⟨q, r, rfl⟩
      have hq : q ∈ PF w rows := (List.mem_filter.mp (by rw [eq]; exact List.mem_cons_self)).1
      have b1 := mp q hq
      have b2 := mp p hp
      rw [eq]
      refine ⟨?_, ?_⟩
      · refine sm_pair ((sm_int (by have e : p.1 = maxI 0 ((PF w rows).map (·.1)) := ep; omega)).le (by decide)) ?_
        exact sm_pair (sm_int (by show q.2.1.natAbs < _; omega)) (sm_int (by show q.2.2.natAbs < _; omega))
      · have ix : ixR (q.2 :: r.map fun p : Int × Int × Int => p.2) (0 : Int) = .ok q.2 := ixR_nat (i := 0) (by simp)
        rw [lcT_ok (P := fun p : Int × Int × Int => decide (p.1 = maxI 0 ((PF w rows).map (·.1)))) (g := fun p : Int × Int × Int => p.2) _ (fun _ _ => rfl) fun _ _ _ => rfl]
        simp only [Rt.ok_bind]
        rw [lineR_of (by rw [List.length_map]; exact Nat.le_trans (List.length_filter_le _ _) (by omega)), Rt.ok_bind, eq, List.map_cons, ix]
        rfl
  obtain ⟨wide, w1, w2, w3⟩ := wk
  refine wof w3 ?_
  obtain ⟨t3', rp3⟩ := two_shown _ w2 (by decide) (by decide)
  refine of_eq (a := true) ?_ rfl
  show (Rt.bind (Rt.bind (Rt.bind (Rt.bind (t_widest_pair K rows w.s) _) _) _) _) = _
  rw [w1]
  simp only [Rt.ok_bind]
  rw [lineR_of (by simp)]
  simp only [Rt.ok_bind]
  rw [rp3]
  simp only [Rt.ok_bind, decide_true]
end G

set_option maxRecDepth 100000
set_option maxHeartbeats 4000000
namespace G
open PySem PySem.Spec PyProof.Rows L2 Ev Ty
theorem mulR_l {a b : Int} (h : szM a = true) : mulR a b = .ok (a * b) := by rw [mulR, mulB, h, Bool.true_or]
theorem mulR_r {a b : Int} (h : szM b = true) : mulR a b = .ok (a * b) := by rw [mulR, mulB, h, Bool.or_true]
theorem modR_of {a b : Int} (h : 0 < b) : modR a b = .ok (a % b) := by rw [modR, decide_eq_true h]
theorem bag_total (ns : List Int) (lap : Int) (h0 : 0 ≤ lap) : ∃ b0 b1 b2, t__law_bag ns lap = .ok [b0, b1, b2] := by
  unfold t__law_bag
  rw [mulR_l rfl]
  simp only [Rt.ok_bind]
  rw [forT_fold (g := fun s x => (s * 48271 + x % 2147483629 + 23) % 2147483647) _ _ fun x _ s => by
    rw [mulR_r rfl, modR_of (by decide)]
    simp only [Rt.ok_bind]
    rw [modR_of (by decide)]
    rfl]
  simp only [Rt.ok_bind]
  have e1 : ∃ own, (cond (decide (lap < (ns.length : Int))) (Rt.bind (ixR ns lap) fun x => (.ok x)) (.ok (0 : Int))) = .ok own := by
    by_cases h : lap < (ns.length : Int)
    · obtain ⟨i, rfl⟩ : ∃ i : Nat, lap = (i : Int) := ⟨lap.toNat, by omega⟩
      rw [decide_eq_true h, cond_true, ixR_nat (by omega)]
      exact ⟨_, rfl⟩
    · rw [decide_eq_false h]
      exact ⟨0, rfl⟩
  obtain ⟨own, e1⟩ := e1
  rw [e1]
  simp only [Rt.ok_bind]
  rw [mulR_r rfl, modR_of (by decide)]
  simp only [Rt.ok_bind]
  rw [mulR_r rfl]
  simp only [Rt.ok_bind]
  rw [modR_of (by decide)]
  simp only [Rt.ok_bind]
  have e2 : powR 10 15 = .ok 1000000000000000 := rfl
  rw [e2]
  simp only [Rt.ok_bind]
  have e3 : ∃ d, (Rt.bind (cond (decide (own < (0 : Int))) (.ok true) (.ok (decide ((1000000000000000 : Int) ≤ own)))) fun k => cond k (.ok (if own < 0 then -own else own)) (.ok (0 : Int))) = .ok d := by
    cases decide (own < (0 : Int)) with
    | true => exact ⟨_, rfl⟩
    | false => cases decide ((1000000000000000 : Int) ≤ own) <;> exact ⟨_, rfl⟩
  obtain ⟨d, e3⟩ := e3
  rw [e3]
  exact ⟨d, _, 0, rfl⟩
def tl__law_bag (ns : List Int) (lap : Int) : W (Option Nat) Nat := bagW (0 ≤ lap)
theorem TL__law_bag : WF LawI m__law_bag (qc (cScr cI) (q1 cI)) cRef (fun x => tl__law_bag x.1 x.2) := bag_wf (f := fun a : List Int × Int => t__law_bag a.1 a.2) (fun a => B__law_bag a.1 a.2) rfl rfl fun a h => bag_total a.1 a.2 h
def tl__law_right (k : Nat) : W (Option Nat) Bool := rightW k
theorem TL__law_right : WF LawI m__law_right (q1 cRef) cB (fun x => tl__law_right x) := right_wf (fun k => T__law_right k) fun E => right_ok () E
def t_law (p_script : (List Int)) : W (Option Nat) Bool := (W.bind (W.bind (W.of (rngR1 (if (if (3 : Int) < (p_script.length : Int) then (3 : Int) else (p_script.length : Int)) > (2 : Int) then (if (3 : Int) < (p_script.length : Int) then (3 : Int) else (p_script.length : Int)) else (2 : Int)))) fun xs_1587 => forOW (ρ := Bool) xs_1587 () (fun (s_1573 : Unit) (x_1574 : Int) => (W.bind (tl__law_bag p_script x_1574) fun bag_1577 => (W.bind (W.bind (W.bind (W.bind (W.of (rngR1 (6 : Int))) fun xs_1580 => (W.bind (noE (lcW xs_1580 (fun (x_1579 : Int) => (.ok true)) (fun (x_1579 : Int) => (tl__law_right bag_1577)))) fun ys => W.of (lineR ys))) fun x_1581 => (W.ok (x_1581.all id))) fun x_1582 => (W.ok (!x_1582))) fun k_1586 => W.cond k_1586 (W.bind (W.ok false) fun r_1584 => W.ok (Ou.rt r_1584 : Ou Unit Bool)) (W.bind (W.ok ()) fun s_1585 => W.ok (Ou.nx s_1585 : Ou Unit Bool)))))) fun o_1588 => ouWB o_1588 fun s_1583 => (W.ok true))
theorem B_law (p_script : (List Int)) : WB LawI 4 [(0, .val ((cScr cI).d p_script))] b_law cB (W.bind (W.bind (W.of (Rt.bind (Rt.bind (.ok (2 : Int)) fun x_1570 => (Rt.bind (Rt.bind (Rt.bind (.ok p_script) fun x_1567 => (.ok (x_1567.length : Int))) fun x_1568 => (Rt.bind (.ok (3 : Int)) fun x_1569 => (.ok (if x_1569 < x_1568 then x_1569 else x_1568)))) fun x_1571 => (.ok (if x_1571 > x_1570 then x_1571 else x_1570)))) fun x_1572 => rngR1 x_1572)) fun xs_1587 => forOW (ρ := Bool) xs_1587 () (fun (s_1573 : Unit) (x_1574 : Int) => (W.bind (W.bind (W.of (Rt.bind (.ok p_script) fun x_1575 => Rt.bind (.ok x_1574) fun x_1576 => .ok (x_1575, x_1576))) fun x => tl__law_bag x.1 x.2) fun bag_1577 => (W.bind (W.bind (W.bind (W.bind (W.of (Rt.bind (.ok (6 : Int)) fun x_1578 => rngR1 x_1578)) fun xs_1580 => (W.bind (noE (lcW xs_1580 (fun (x_1579 : Int) => (.ok true)) (fun (x_1579 : Int) => (W.bind (W.of (.ok bag_1577)) fun x => tl__law_right x)))) fun ys => W.of (lineR ys))) fun x_1581 => (W.ok (x_1581.all id))) fun x_1582 => (W.ok (!x_1582))) fun k_1586 => W.cond k_1586 (W.bind (W.of (.ok false)) fun r_1584 => W.ok (Ou.rt r_1584 : Ou Unit Bool)) (W.bind (W.bind (W.of (.ok ())) fun _ => (W.ok ())) fun s_1585 => W.ok (Ou.nx s_1585 : Ou Unit Bool)))))) fun o_1588 => ouWB o_1588 fun s_1583 => (W.of (.ok true))) := (wb_oseq (wo_for (s0 := ()) (Gs := (fun (s_1573 : Unit) => [(0, .val ((cScr cI).d p_script))])) (wg_of (tg_one (tg_un u_rng1 (tg_two (te_op o_max2 te_int (tg_two (te_op o_min2 (tg_one (tg_len (ts_scr (te_var (c := (cScr cI)) rfl)))) te_int))))))) (by exact ⟨rfl, trivial⟩) (fun s_1573 x_1574 => (gt_set rfl)) (fun s_1573 x_1574 => (wo_seq (wn_set (we_call TL__law_bag (wg_of (ta_cons (te_var (c := (cScr cI)) rfl) (ta_one (te_var (c := cI) rfl)))) rfl (fun _ => rfl)) rfl) (fun bag_1577 => (wo_if (ww_not (ww_test (wg_one (wg_un u_all (we_valL (wg_lc (wg_of (tg_one (tg_un u_rng1 te_int))) rfl (fun x_1579 => (gc_set rfl rfl)) (fun x_1579 => tt_yes) (fun x_1579 => (we_call TL__law_right (wg_of (ta_one (te_var (c := cRef) rfl))) rfl (fun _ => rfl))))))))) (wo_b (wb_ret (wg_of te_bl))) (wo_n (wn_to (fun _ => ()) (wn_of tn_skip) (fun _ => (by exact ⟨rfl, trivial⟩))))))))) (fun s_1583 => (wb_ret (wg_of te_bl))))
theorem T_law : WF LawI m_law (q1 (cScr cI)) cB (fun x => t_law x) := wf_b (fun a => B_law a) rfl rfl
theorem rights_ok (k : Nat) (E : Ex → Option Nat → Prop) : ∀ (xs : List Int) (Q : List Bool → Option Nat → Prop), (∀ bs : List Bool, bs.length = xs.length → (∀ b ∈ bs, b = true) → Q bs (some k)) → lcW xs (fun _ => .ok true) (fun _ => tl__law_right k) (some k) Q E
  | [], Q, h => h [] rfl fun _ hb => by cases hb
  | x :: r, Q, h => by
    refine ⟨rfl, ?_⟩
    refine wb (rights_ok k E r _ fun bs hl hb => ?_)
    exact h (true :: bs) (by simp [hl]) fun b hb' => by
      rcases List.mem_cons.mp hb' with rfl | hb'
      · rfl
      · exact hb b hb'
theorem law_w (ns : List Int) (hn : ns.length ≤ 63) : t_law ns none (fun b _ => b = true) (fun _ _ => False) := by
  unfold t_law
  obtain ⟨m, hm, hm2⟩ : ∃ m : Nat, (if (if (3 : Int) < (ns.length : Int) then (3 : Int) else (ns.length : Int)) > (2 : Int) then (if (3 : Int) < (ns.length : Int) then (3 : Int) else (ns.length : Int)) else (2 : Int)) = (m : Int) ∧ m ≤ 3 := by
    have h : 0 ≤ (if (if (3 : Int) < (ns.length : Int) then (3 : Int) else (ns.length : Int)) > (2 : Int) then (if (3 : Int) < (ns.length : Int) then (3 : Int) else (ns.length : Int)) else (2 : Int)) ∧ (if (if (3 : Int) < (ns.length : Int) then (3 : Int) else (ns.length : Int)) > (2 : Int) then (if (3 : Int) < (ns.length : Int) then (3 : Int) else (ns.length : Int)) else (2 : Int)) ≤ 3 := by
      split <;> split <;> omega
    exact ⟨_, (Int.toNat_of_nonneg h.1).symm, by omega⟩
  rw [hm]
  refine wb (wof (a := (List.range m).map fun (i : Nat) => (i : Int)) (rngR1_of (by omega)) ?_)
  have key : ∀ (xs : List Int) (s : Option Nat), (∀ x ∈ xs, 0 ≤ x) → forOW (ρ := Bool) xs () (fun (s_1573 : Unit) (x_1574 : Int) => (W.bind (tl__law_bag ns x_1574) fun bag_1577 => (W.bind (W.bind (W.bind (W.bind (W.of (rngR1 (6 : Int))) fun xs_1580 => (W.bind (noE (lcW xs_1580 (fun (x_1579 : Int) => (.ok true)) (fun (x_1579 : Int) => (tl__law_right bag_1577)))) fun ys => W.of (lineR ys))) fun x_1581 => (W.ok (x_1581.all id))) fun x_1582 => (W.ok (!x_1582))) fun k_1586 => W.cond k_1586 (W.bind (W.ok false) fun r_1584 => W.ok (Ou.rt r_1584 : Ou Unit Bool)) (W.bind (W.ok ()) fun s_1585 => W.ok (Ou.nx s_1585 : Ou Unit Bool))))) s (fun o s' => (ouWB o fun _ => (W.ok true : W (Option Nat) Bool)) s' (fun b _ => b = true) (fun _ _ => False)) (fun _ _ => False) := by
    intro xs
    induction xs with
    | nil => exact fun s _ => rfl
    | cons x xs ih =>
      intro s h
      rw [forOW]
      refine wb (wb ⟨h x List.mem_cons_self, fun k => ?_⟩)
      refine wb (wb (wb (wof (a := (List.range 6).map fun (i : Nat) => (i : Int)) (rngR1_of (n := 6) (by decide)) ?_)))
      refine wb (rights_ok k _ _ _ fun bs hl hb => ?_)
      refine of_eq (a := bs) (lineR_of (by rw [hl, List.length_map, List.length_range]; decide)) ?_
      have e : bs.all id = true := List.all_eq_true.mpr fun b hb' => hb b hb'
      refine wok' ?_
      refine wok' ?_
      rw [e]
      exact ih (some k) fun y hy => h y (List.mem_cons_of_mem _ hy)
  exact key _ _ fun x hx => by
    obtain ⟨i, _, rfl⟩ := List.mem_map.mp hx
    omega
theorem pure_ok (ns : List Int) (hn : ns.length ≤ 63) : ∃ μ, m_law [.scr (ns.map .int)] [] = .ok (.bl true) μ := law_end T_law ns (law_w ns hn)
end G

set_option maxRecDepth 100000
set_option maxHeartbeats 0
namespace G
open PySem PySem.Spec PyProof.Rows L2 Ev
def top (i : Nat) : Stmt := PySem.Challenge.pw_wrongplaces_k73_whole_medians.main.body.getD i (.Pass ⟨0, 0, 0, 0⟩)
structure Fc (K : PySem.W.Frag) (mg : Str → Option Value) : Prop where
  abs_ : mg "abs" = none
  all_ : mg "all" = none
  bool_ : mg "bool" = none
  divmod_ : mg "divmod" = none
  enumerate_ : mg "enumerate" = none
  int_ : mg "int" = none
  isinstance_ : mg "isinstance" = none
  len_ : mg "len" = none
  list_ : mg "list" = none
  max_ : mg "max" = none
  min_ : mg "min" = none
  range_ : mg "range" = none
  repr_ : mg "repr" = none
  set_ : mg "set" = none
  sorted_ : mg "sorted" = none
  str_ : mg "str" = none
  sum_ : mg "sum" = none
  tuple_ : mg "tuple" = none
  zip_ : mg "zip" = none
  gcd_ : mg "gcd" = some (.builtin "math.gcd")
  c_FEWEST_KINDS : ∃ t, mg "FEWEST_KINDS" = some (.int 2 t)
  c_FLIP : ∃ t, mg "FLIP" = some (.str "flip" t)
  c_FRONT : ∃ t, mg "FRONT" = some (.str "front" t)
  c_MOST_KINDS : ∃ t, mg "MOST_KINDS" = some (.int 4 t)
  c_MOST_PLACES : ∃ t, mg "MOST_PLACES" = some (.int 7 t)
  c_MOST_ROWS : ∃ t, mg "MOST_ROWS" = some (.int 6 t)
  c_MOVE : ∃ t, mg "MOVE" = some (.str "move" t)
  c_NEAR : ∃ t, mg "NEAR" = some (.str "near" t)
  c_RING : ∃ t, mg "RING" = some (.str "ring" t)
  c_TURNS : mg "TURNS" = some (.ref (He.ga K "TURNS")) ∧ ∀ H, SqT K H (He.ga K "TURNS") ((["stretch", "flip"] : List Str).map V.str)
  c_WAYS : mg "WAYS" = some (.ref (He.ga K "WAYS")) ∧ ∀ H, SqT K H (He.ga K "WAYS") ((["any", "near", "move", "front"] : List Str).map V.str)
section
variable [PWo] {K : PySem.W.Frag} {mg : Str → Option Value} {base : Heap}
def d__law_bag : He.DefD := ⟨("_law_bag", none), "_law_bag", "_law_bag", defArgs (top 53), defBody (top 53), defScope (top 53), [], []⟩
def d__law_take : He.DefD := ⟨("_law_take", none), "_law_take", "_law_take", defArgs (top 54), defBody (top 54), defScope (top 54), [], []⟩
def d__law_row : He.DefD := ⟨("_law_row", none), "_law_row", "_law_row", defArgs (top 56), defBody (top 56), defScope (top 56), [], []⟩
def d__law_pull : He.DefD := ⟨("_law_pull", none), "_law_pull", "_law_pull", defArgs (top 55), defBody (top 55), defScope (top 55), [], []⟩
def d__law_way : He.DefD := ⟨("_law_way", none), "_law_way", "_law_way", defArgs (top 61), defBody (top 61), defScope (top 61), [], []⟩
def d__law_mixed : He.DefD := ⟨("_law_mixed", none), "_law_mixed", "_law_mixed", defArgs (top 57), defBody (top 57), defScope (top 57), [], []⟩
def d__law_steps : He.DefD := ⟨("_law_steps", none), "_law_steps", "_law_steps", defArgs (top 59), defBody (top 59), defScope (top 59), [], []⟩
def d__law_off : He.DefD := ⟨("_law_off", none), "_law_off", "_law_off", defArgs (top 60), defBody (top 60), defScope (top 60), [], []⟩
def d__law_all_rows : He.DefD := ⟨("_law_all_rows", none), "_law_all_rows", "_law_all_rows", defArgs (top 58), defBody (top 58), defScope (top 58), [], []⟩
def d__law_medians : He.DefD := ⟨("_law_medians", none), "_law_medians", "_law_medians", defArgs (top 63), defBody (top 63), defScope (top 63), [], []⟩
def d_is_whole : He.DefD := ⟨("is_whole", none), "is_whole", "is_whole", defArgs (top 7), defBody (top 7), defScope (top 7), [], []⟩
def d_is_between : He.DefD := ⟨("is_between", none), "is_between", "is_between", defArgs (top 8), defBody (top 8), defScope (top 8), [], []⟩
def d_is_kinds : He.DefD := ⟨("is_kinds", none), "is_kinds", "is_kinds", defArgs (top 17), defBody (top 17), defScope (top 17), [], []⟩
def d_check_kinds : He.DefD := ⟨("check_kinds", none), "check_kinds", "check_kinds", defArgs (top 18), defBody (top 18), defScope (top 18), [], []⟩
def d_is_row_values : He.DefD := ⟨("is_row_values", none), "is_row", "is_row", defArgs (top 10), defBody (top 10), defScope (top 10), [], []⟩
def d_is_kind : He.DefD := ⟨("is_kind", none), "is_kind", "is_kind", defArgs (top 19), defBody (top 19), defScope (top 19), [], []⟩
def d_is_row_wants : He.DefD := ⟨("is_row_wants", none), "is_row", "is_row", defArgs (top 20), defBody (top 20), defScope (top 20), [], []⟩
def d_is_goal : He.DefD := ⟨("is_goal", none), "is_goal", "is_goal", defArgs (top 22), defBody (top 22), defScope (top 22), [], []⟩
def d_is_string : He.DefD := ⟨("is_string", none), "is_string", "is_string", defArgs (top 9), defBody (top 9), defScope (top 9), [], []⟩
def d_is_way : He.DefD := ⟨("is_way", none), "is_way", "is_way", defArgs (top 40), defBody (top 40), defScope (top 40), [], []⟩
def d_check_way : He.DefD := ⟨("check_way", none), "check_way", "check_way", defArgs (top 41), defBody (top 41), defScope (top 41), [], []⟩
def d_check_rows : He.DefD := ⟨("check_rows", none), "check_rows", "check_rows", defArgs (top 48), defBody (top 48), defScope (top 48), [], []⟩
def d_pairs_of : He.DefD := ⟨("pairs_of", none), "pairs_of", "pairs_of", defArgs (top 36), defBody (top 36), defScope (top 36), [], []⟩
def d_shifted : He.DefD := ⟨("shifted", none), "shifted", "shifted", defArgs (top 24), defBody (top 24), defScope (top 24), [], []⟩
def d_put_in_each : He.DefD := ⟨("put_in_each", none), "put_in_each", "put_in_each", defArgs (top 23), defBody (top 23), defScope (top 23), [], []⟩
def d_done_by : He.DefD := ⟨("done_by", none), "done_by", "done_by", defArgs (top 37), defBody (top 37), defScope (top 37), [], []⟩
def d_far_from : He.DefD := ⟨("far_from", none), "far_from", "far_from", defArgs (top 38), defBody (top 38), defScope (top 38), [], []⟩
def d_sums_by : He.DefD := ⟨("sums_by", none), "sums_by", "sums_by", defArgs (top 44), defBody (top 44), defScope (top 44), [], []⟩
def d_medians_by : He.DefD := ⟨("medians_by", none), "medians_by", "medians_by", defArgs (top 45), defBody (top 45), defScope (top 45), [], []⟩
def d_medians : He.DefD := ⟨("medians", none), "medians", "medians", defArgs (top 49), defBody (top 49), defScope (top 49), [], []⟩
def d__law_pair_far : He.DefD := ⟨("_law_pair_far", none), "_law_pair_far", "_law_pair_far", defArgs (top 64), defBody (top 64), defScope (top 64), [], []⟩
def d__law_lowest : He.DefD := ⟨("_law_lowest", none), "_law_lowest", "_law_lowest", defArgs (top 62), defBody (top 62), defScope (top 62), [], []⟩
def d_lowest : He.DefD := ⟨("lowest", none), "lowest", "lowest", defArgs (top 12), defBody (top 12), defScope (top 12), [], []⟩
def d_mean_by : He.DefD := ⟨("mean_by", none), "mean_by", "mean_by", defArgs (top 46), defBody (top 46), defScope (top 46), [], []⟩
def d_mean_far : He.DefD := ⟨("mean_far", none), "mean_far", "mean_far", defArgs (top 50), defBody (top 50), defScope (top 50), [], []⟩
def d_widest_by : He.DefD := ⟨("widest_by", none), "widest_by", "widest_by", defArgs (top 47), defBody (top 47), defScope (top 47), [], []⟩
def d_widest_pair : He.DefD := ⟨("widest_pair", none), "widest_pair", "widest_pair", defArgs (top 51), defBody (top 51), defScope (top 51), [], []⟩
def d__law_right : He.DefD := ⟨("_law_right", none), "_law_right", "_law_right", defArgs (top 65), defBody (top 65), defScope (top 65), [], []⟩
def d_law : He.DefD := ⟨("law", none), "law", "law", defArgs (top 66), defBody (top 66), defScope (top 66), [], []⟩
theorem bind__law_all_rows_pos {fd : FuncData} (f : FunD K d__law_all_rows.name d__law_all_rows.qual d__law_all_rows.params d__law_all_rows.body d__law_all_rows.scope (d__law_all_rows.dvs K) (d__law_all_rows.kws K) (He.fAd K ("_law_all_rows", none)) fd) : BindG K fd ["row"] 1 [] [0] [] :=
  FunD.bindG f 1 [] [0] fun _ _ _ _ _ _ us ws hu hw => match us, hu, ws, hw with | [a0], _, [], _ => rfl
theorem bind__law_bag_pos {fd : FuncData} (f : FunD K d__law_bag.name d__law_bag.qual d__law_bag.params d__law_bag.body d__law_bag.scope (d__law_bag.dvs K) (d__law_bag.kws K) (He.fAd K ("_law_bag", none)) fd) : BindG K fd ["script", "lap"] 2 [] [0, 1] [] :=
  FunD.bindG f 2 [] [0, 1] fun _ _ _ _ _ _ us ws hu hw => match us, hu, ws, hw with | [a0, a1], _, [], _ => rfl
theorem bind__law_lowest_pos {fd : FuncData} (f : FunD K d__law_lowest.name d__law_lowest.qual d__law_lowest.params d__law_lowest.body d__law_lowest.scope (d__law_lowest.dvs K) (d__law_lowest.kws K) (He.fAd K ("_law_lowest", none)) fd) : BindG K fd ["top", "low"] 2 [] [0, 1] [] :=
  FunD.bindG f 2 [] [0, 1] fun _ _ _ _ _ _ us ws hu hw => match us, hu, ws, hw with | [a0, a1], _, [], _ => rfl
theorem bind__law_medians_pos {fd : FuncData} (f : FunD K d__law_medians.name d__law_medians.qual d__law_medians.params d__law_medians.body d__law_medians.scope (d__law_medians.dvs K) (d__law_medians.kws K) (He.fAd K ("_law_medians", none)) fd) : BindG K fd ["rows", "way"] 2 [] [0, 1] [] :=
  FunD.bindG f 2 [] [0, 1] fun _ _ _ _ _ _ us ws hu hw => match us, hu, ws, hw with | [a0, a1], _, [], _ => rfl
theorem bind__law_mixed_pos {fd : FuncData} (f : FunD K d__law_mixed.name d__law_mixed.qual d__law_mixed.params d__law_mixed.body d__law_mixed.scope (d__law_mixed.dvs K) (d__law_mixed.kws K) (He.fAd K ("_law_mixed", none)) fd) : BindG K fd ["bag", "row"] 2 [] [0, 1] [] :=
  FunD.bindG f 2 [] [0, 1] fun _ _ _ _ _ _ us ws hu hw => match us, hu, ws, hw with | [a0, a1], _, [], _ => rfl
theorem bind__law_off_pos {fd : FuncData} (f : FunD K d__law_off.name d__law_off.qual d__law_off.params d__law_off.body d__law_off.scope (d__law_off.dvs K) (d__law_off.kws K) (He.fAd K ("_law_off", none)) fd) : BindG K fd ["row", "way"] 2 [] [0, 1] [] :=
  FunD.bindG f 2 [] [0, 1] fun _ _ _ _ _ _ us ws hu hw => match us, hu, ws, hw with | [a0, a1], _, [], _ => rfl
theorem bind__law_pair_far_pos {fd : FuncData} (f : FunD K d__law_pair_far.name d__law_pair_far.qual d__law_pair_far.params d__law_pair_far.body d__law_pair_far.scope (d__law_pair_far.dvs K) (d__law_pair_far.kws K) (He.fAd K ("_law_pair_far", none)) fd) : BindG K fd ["rows", "way"] 2 [] [0, 1] [] :=
  FunD.bindG f 2 [] [0, 1] fun _ _ _ _ _ _ us ws hu hw => match us, hu, ws, hw with | [a0, a1], _, [], _ => rfl
theorem bind__law_pull_pos {fd : FuncData} (f : FunD K d__law_pull.name d__law_pull.qual d__law_pull.params d__law_pull.body d__law_pull.scope (d__law_pull.dvs K) (d__law_pull.kws K) (He.fAd K ("_law_pull", none)) fd) : BindG K fd ["bag", "some"] 2 [] [0, 1] [] :=
  FunD.bindG f 2 [] [0, 1] fun _ _ _ _ _ _ us ws hu hw => match us, hu, ws, hw with | [a0, a1], _, [], _ => rfl
theorem bind__law_right_pos {fd : FuncData} (f : FunD K d__law_right.name d__law_right.qual d__law_right.params d__law_right.body d__law_right.scope (d__law_right.dvs K) (d__law_right.kws K) (He.fAd K ("_law_right", none)) fd) : BindG K fd ["bag"] 1 [] [0] [] :=
  FunD.bindG f 1 [] [0] fun _ _ _ _ _ _ us ws hu hw => match us, hu, ws, hw with | [a0], _, [], _ => rfl
theorem bind__law_row_pos {fd : FuncData} (f : FunD K d__law_row.name d__law_row.qual d__law_row.params d__law_row.body d__law_row.scope (d__law_row.dvs K) (d__law_row.kws K) (He.fAd K ("_law_row", none)) fd) : BindG K fd ["bag", "most"] 2 [] [0, 1] [] :=
  FunD.bindG f 2 [] [0, 1] fun _ _ _ _ _ _ us ws hu hw => match us, hu, ws, hw with | [a0, a1], _, [], _ => rfl
theorem bind__law_steps_pos {fd : FuncData} (f : FunD K d__law_steps.name d__law_steps.qual d__law_steps.params d__law_steps.body d__law_steps.scope (d__law_steps.dvs K) (d__law_steps.kws K) (He.fAd K ("_law_steps", none)) fd) : BindG K fd ["row", "way"] 2 [] [0, 1] [] :=
  FunD.bindG f 2 [] [0, 1] fun _ _ _ _ _ _ us ws hu hw => match us, hu, ws, hw with | [a0, a1], _, [], _ => rfl
theorem bind__law_take_pos {fd : FuncData} (f : FunD K d__law_take.name d__law_take.qual d__law_take.params d__law_take.body d__law_take.scope (d__law_take.dvs K) (d__law_take.kws K) (He.fAd K ("_law_take", none)) fd) : BindG K fd ["bag", "top"] 2 [] [0, 1] [] :=
  FunD.bindG f 2 [] [0, 1] fun _ _ _ _ _ _ us ws hu hw => match us, hu, ws, hw with | [a0, a1], _, [], _ => rfl
theorem bind__law_way_pos {fd : FuncData} (f : FunD K d__law_way.name d__law_way.qual d__law_way.params d__law_way.body d__law_way.scope (d__law_way.dvs K) (d__law_way.kws K) (He.fAd K ("_law_way", none)) fd) : BindG K fd ["bag"] 1 [] [0] [] :=
  FunD.bindG f 1 [] [0] fun _ _ _ _ _ _ us ws hu hw => match us, hu, ws, hw with | [a0], _, [], _ => rfl
theorem bind_check_kinds_pos {fd : FuncData} (f : FunD K d_check_kinds.name d_check_kinds.qual d_check_kinds.params d_check_kinds.body d_check_kinds.scope (d_check_kinds.dvs K) (d_check_kinds.kws K) (He.fAd K ("check_kinds", none)) fd) : BindG K fd ["kinds"] 1 [] [0] [] :=
  FunD.bindG f 1 [] [0] fun _ _ _ _ _ _ us ws hu hw => match us, hu, ws, hw with | [a0], _, [], _ => rfl
theorem bind_check_rows_pos {fd : FuncData} (f : FunD K d_check_rows.name d_check_rows.qual d_check_rows.params d_check_rows.body d_check_rows.scope (d_check_rows.dvs K) (d_check_rows.kws K) (He.fAd K ("check_rows", none)) fd) : BindG K fd ["kinds", "rows", "way"] 3 [] [0, 1, 2] [] :=
  FunD.bindG f 3 [] [0, 1, 2] fun _ _ _ _ _ _ us ws hu hw => match us, hu, ws, hw with | [a0, a1, a2], _, [], _ => rfl
theorem bind_check_way_pos {fd : FuncData} (f : FunD K d_check_way.name d_check_way.qual d_check_way.params d_check_way.body d_check_way.scope (d_check_way.dvs K) (d_check_way.kws K) (He.fAd K ("check_way", none)) fd) : BindG K fd ["way"] 1 [] [0] [] :=
  FunD.bindG f 1 [] [0] fun _ _ _ _ _ _ us ws hu hw => match us, hu, ws, hw with | [a0], _, [], _ => rfl
theorem bind_done_by_pos {fd : FuncData} (f : FunD K d_done_by.name d_done_by.qual d_done_by.params d_done_by.body d_done_by.scope (d_done_by.dvs K) (d_done_by.kws K) (He.fAd K ("done_by", none)) fd) : BindG K fd ["row", "way", "pair"] 3 [] [0, 1, 2] [] :=
  FunD.bindG f 3 [] [0, 1, 2] fun _ _ _ _ _ _ us ws hu hw => match us, hu, ws, hw with | [a0, a1, a2], _, [], _ => rfl
theorem bind_far_from_pos {fd : FuncData} (f : FunD K d_far_from.name d_far_from.qual d_far_from.params d_far_from.body d_far_from.scope (d_far_from.dvs K) (d_far_from.kws K) (He.fAd K ("far_from", none)) fd) : BindG K fd ["row", "way"] 2 [] [0, 1] [] :=
  FunD.bindG f 2 [] [0, 1] fun _ _ _ _ _ _ us ws hu hw => match us, hu, ws, hw with | [a0, a1], _, [], _ => rfl
theorem bind_is_between_pos {fd : FuncData} (f : FunD K d_is_between.name d_is_between.qual d_is_between.params d_is_between.body d_is_between.scope (d_is_between.dvs K) (d_is_between.kws K) (He.fAd K ("is_between", none)) fd) : BindG K fd ["value", "least", "most"] 3 [] [0, 1, 2] [] :=
  FunD.bindG f 3 [] [0, 1, 2] fun _ _ _ _ _ _ us ws hu hw => match us, hu, ws, hw with | [a0, a1, a2], _, [], _ => rfl
theorem bind_is_goal_pos {fd : FuncData} (f : FunD K d_is_goal.name d_is_goal.qual d_is_goal.params d_is_goal.body d_is_goal.scope (d_is_goal.dvs K) (d_is_goal.kws K) (He.fAd K ("is_goal", none)) fd) : BindG K fd ["kinds", "row", "value"] 3 [] [0, 1, 2] [] :=
  FunD.bindG f 3 [] [0, 1, 2] fun _ _ _ _ _ _ us ws hu hw => match us, hu, ws, hw with | [a0, a1, a2], _, [], _ => rfl
theorem bind_is_kind_pos {fd : FuncData} (f : FunD K d_is_kind.name d_is_kind.qual d_is_kind.params d_is_kind.body d_is_kind.scope (d_is_kind.dvs K) (d_is_kind.kws K) (He.fAd K ("is_kind", none)) fd) : BindG K fd ["kinds", "value"] 2 [] [0, 1] [] :=
  FunD.bindG f 2 [] [0, 1] fun _ _ _ _ _ _ us ws hu hw => match us, hu, ws, hw with | [a0, a1], _, [], _ => rfl
theorem bind_is_kinds_pos {fd : FuncData} (f : FunD K d_is_kinds.name d_is_kinds.qual d_is_kinds.params d_is_kinds.body d_is_kinds.scope (d_is_kinds.dvs K) (d_is_kinds.kws K) (He.fAd K ("is_kinds", none)) fd) : BindG K fd ["value"] 1 [] [0] [] :=
  FunD.bindG f 1 [] [0] fun _ _ _ _ _ _ us ws hu hw => match us, hu, ws, hw with | [a0], _, [], _ => rfl
theorem bind_is_row_values_pos {fd : FuncData} (f : FunD K d_is_row_values.name d_is_row_values.qual d_is_row_values.params d_is_row_values.body d_is_row_values.scope (d_is_row_values.dvs K) (d_is_row_values.kws K) (He.fAd K ("is_row_values", none)) fd) : BindG K fd ["value", "least", "most"] 3 [] [0, 1, 2] [] :=
  FunD.bindG f 3 [] [0, 1, 2] fun _ _ _ _ _ _ us ws hu hw => match us, hu, ws, hw with | [a0, a1, a2], _, [], _ => rfl
theorem bind_is_row_wants_pos {fd : FuncData} (f : FunD K d_is_row_wants.name d_is_row_wants.qual d_is_row_wants.params d_is_row_wants.body d_is_row_wants.scope (d_is_row_wants.dvs K) (d_is_row_wants.kws K) (He.fAd K ("is_row_wants", none)) fd) : BindG K fd ["kinds", "value"] 2 [] [0, 1] [] :=
  FunD.bindG f 2 [] [0, 1] fun _ _ _ _ _ _ us ws hu hw => match us, hu, ws, hw with | [a0, a1], _, [], _ => rfl
theorem bind_is_string_pos {fd : FuncData} (f : FunD K d_is_string.name d_is_string.qual d_is_string.params d_is_string.body d_is_string.scope (d_is_string.dvs K) (d_is_string.kws K) (He.fAd K ("is_string", none)) fd) : BindG K fd ["value"] 1 [] [0] [] :=
  FunD.bindG f 1 [] [0] fun _ _ _ _ _ _ us ws hu hw => match us, hu, ws, hw with | [a0], _, [], _ => rfl
theorem bind_is_way_pos {fd : FuncData} (f : FunD K d_is_way.name d_is_way.qual d_is_way.params d_is_way.body d_is_way.scope (d_is_way.dvs K) (d_is_way.kws K) (He.fAd K ("is_way", none)) fd) : BindG K fd ["value"] 1 [] [0] [] :=
  FunD.bindG f 1 [] [0] fun _ _ _ _ _ _ us ws hu hw => match us, hu, ws, hw with | [a0], _, [], _ => rfl
theorem bind_is_whole_pos {fd : FuncData} (f : FunD K d_is_whole.name d_is_whole.qual d_is_whole.params d_is_whole.body d_is_whole.scope (d_is_whole.dvs K) (d_is_whole.kws K) (He.fAd K ("is_whole", none)) fd) : BindG K fd ["value"] 1 [] [0] [] :=
  FunD.bindG f 1 [] [0] fun _ _ _ _ _ _ us ws hu hw => match us, hu, ws, hw with | [a0], _, [], _ => rfl
theorem bind_lowest_pos {fd : FuncData} (f : FunD K d_lowest.name d_lowest.qual d_lowest.params d_lowest.body d_lowest.scope (d_lowest.dvs K) (d_lowest.kws K) (He.fAd K ("lowest", none)) fd) : BindG K fd ["over", "under"] 2 [] [0, 1] [] :=
  FunD.bindG f 2 [] [0, 1] fun _ _ _ _ _ _ us ws hu hw => match us, hu, ws, hw with | [a0, a1], _, [], _ => rfl
theorem bind_mean_by_pos {fd : FuncData} (f : FunD K d_mean_by.name d_mean_by.qual d_mean_by.params d_mean_by.body d_mean_by.scope (d_mean_by.dvs K) (d_mean_by.kws K) (He.fAd K ("mean_by", none)) fd) : BindG K fd ["rows", "way"] 2 [] [0, 1] [] :=
  FunD.bindG f 2 [] [0, 1] fun _ _ _ _ _ _ us ws hu hw => match us, hu, ws, hw with | [a0, a1], _, [], _ => rfl
theorem bind_mean_far_k_way_rows_kinds {fd : FuncData} (f : FunD K d_mean_far.name d_mean_far.qual d_mean_far.params d_mean_far.body d_mean_far.scope (d_mean_far.dvs K) (d_mean_far.kws K) (He.fAd K ("mean_far", none)) fd) : BindG K fd ["kinds", "rows", "way"] 0 ["way", "rows", "kinds"] [2, 1, 0] [] :=
  FunD.bindG f 0 ["way", "rows", "kinds"] [2, 1, 0] fun _ _ _ _ _ _ us ws hu hw => match us, hu, ws, hw with | [], _, [k0, k1, k2], _ => rfl
theorem bind_mean_far_pos {fd : FuncData} (f : FunD K d_mean_far.name d_mean_far.qual d_mean_far.params d_mean_far.body d_mean_far.scope (d_mean_far.dvs K) (d_mean_far.kws K) (He.fAd K ("mean_far", none)) fd) : BindG K fd ["kinds", "rows", "way"] 3 [] [0, 1, 2] [] :=
  FunD.bindG f 3 [] [0, 1, 2] fun _ _ _ _ _ _ us ws hu hw => match us, hu, ws, hw with | [a0, a1, a2], _, [], _ => rfl
theorem bind_medians_k_way_rows_kinds {fd : FuncData} (f : FunD K d_medians.name d_medians.qual d_medians.params d_medians.body d_medians.scope (d_medians.dvs K) (d_medians.kws K) (He.fAd K ("medians", none)) fd) : BindG K fd ["kinds", "rows", "way"] 0 ["way", "rows", "kinds"] [2, 1, 0] [] :=
  FunD.bindG f 0 ["way", "rows", "kinds"] [2, 1, 0] fun _ _ _ _ _ _ us ws hu hw => match us, hu, ws, hw with | [], _, [k0, k1, k2], _ => rfl
theorem bind_medians_pos {fd : FuncData} (f : FunD K d_medians.name d_medians.qual d_medians.params d_medians.body d_medians.scope (d_medians.dvs K) (d_medians.kws K) (He.fAd K ("medians", none)) fd) : BindG K fd ["kinds", "rows", "way"] 3 [] [0, 1, 2] [] :=
  FunD.bindG f 3 [] [0, 1, 2] fun _ _ _ _ _ _ us ws hu hw => match us, hu, ws, hw with | [a0, a1, a2], _, [], _ => rfl
theorem bind_medians_by_pos {fd : FuncData} (f : FunD K d_medians_by.name d_medians_by.qual d_medians_by.params d_medians_by.body d_medians_by.scope (d_medians_by.dvs K) (d_medians_by.kws K) (He.fAd K ("medians_by", none)) fd) : BindG K fd ["rows", "way"] 2 [] [0, 1] [] :=
  FunD.bindG f 2 [] [0, 1] fun _ _ _ _ _ _ us ws hu hw => match us, hu, ws, hw with | [a0, a1], _, [], _ => rfl
theorem bind_pairs_of_pos {fd : FuncData} (f : FunD K d_pairs_of.name d_pairs_of.qual d_pairs_of.params d_pairs_of.body d_pairs_of.scope (d_pairs_of.dvs K) (d_pairs_of.kws K) (He.fAd K ("pairs_of", none)) fd) : BindG K fd ["row", "way"] 2 [] [0, 1] [] :=
  FunD.bindG f 2 [] [0, 1] fun _ _ _ _ _ _ us ws hu hw => match us, hu, ws, hw with | [a0, a1], _, [], _ => rfl
theorem bind_put_in_each_pos {fd : FuncData} (f : FunD K d_put_in_each.name d_put_in_each.qual d_put_in_each.params d_put_in_each.body d_put_in_each.scope (d_put_in_each.dvs K) (d_put_in_each.kws K) (He.fAd K ("put_in_each", none)) fd) : BindG K fd ["row", "one", "other"] 3 [] [0, 1, 2] [] :=
  FunD.bindG f 3 [] [0, 1, 2] fun _ _ _ _ _ _ us ws hu hw => match us, hu, ws, hw with | [a0, a1, a2], _, [], _ => rfl
theorem bind_shifted_pos {fd : FuncData} (f : FunD K d_shifted.name d_shifted.qual d_shifted.params d_shifted.body d_shifted.scope (d_shifted.dvs K) (d_shifted.kws K) (He.fAd K ("shifted", none)) fd) : BindG K fd ["row", "one", "other"] 3 [] [0, 1, 2] [] :=
  FunD.bindG f 3 [] [0, 1, 2] fun _ _ _ _ _ _ us ws hu hw => match us, hu, ws, hw with | [a0, a1, a2], _, [], _ => rfl
theorem bind_sums_by_pos {fd : FuncData} (f : FunD K d_sums_by.name d_sums_by.qual d_sums_by.params d_sums_by.body d_sums_by.scope (d_sums_by.dvs K) (d_sums_by.kws K) (He.fAd K ("sums_by", none)) fd) : BindG K fd ["rows", "way"] 2 [] [0, 1] [] :=
  FunD.bindG f 2 [] [0, 1] fun _ _ _ _ _ _ us ws hu hw => match us, hu, ws, hw with | [a0, a1], _, [], _ => rfl
theorem bind_widest_by_pos {fd : FuncData} (f : FunD K d_widest_by.name d_widest_by.qual d_widest_by.params d_widest_by.body d_widest_by.scope (d_widest_by.dvs K) (d_widest_by.kws K) (He.fAd K ("widest_by", none)) fd) : BindG K fd ["rows", "way"] 2 [] [0, 1] [] :=
  FunD.bindG f 2 [] [0, 1] fun _ _ _ _ _ _ us ws hu hw => match us, hu, ws, hw with | [a0, a1], _, [], _ => rfl
theorem bind_widest_pair_k_way_rows_kinds {fd : FuncData} (f : FunD K d_widest_pair.name d_widest_pair.qual d_widest_pair.params d_widest_pair.body d_widest_pair.scope (d_widest_pair.dvs K) (d_widest_pair.kws K) (He.fAd K ("widest_pair", none)) fd) : BindG K fd ["kinds", "rows", "way"] 0 ["way", "rows", "kinds"] [2, 1, 0] [] :=
  FunD.bindG f 0 ["way", "rows", "kinds"] [2, 1, 0] fun _ _ _ _ _ _ us ws hu hw => match us, hu, ws, hw with | [], _, [k0, k1, k2], _ => rfl
theorem bind_widest_pair_pos {fd : FuncData} (f : FunD K d_widest_pair.name d_widest_pair.qual d_widest_pair.params d_widest_pair.body d_widest_pair.scope (d_widest_pair.dvs K) (d_widest_pair.kws K) (He.fAd K ("widest_pair", none)) fd) : BindG K fd ["kinds", "rows", "way"] 3 [] [0, 1, 2] [] :=
  FunD.bindG f 3 [] [0, 1, 2] fun _ _ _ _ _ _ us ws hu hw => match us, hu, ws, hw with | [a0, a1, a2], _, [], _ => rfl
def N__law_bag : List Str := ["script", "lap", "stirred", "cell", "own"]
theorem sc__law_bag : FnScope N__law_bag ["script", "lap"] (defScope (top 53)) := ⟨rfl, rfl, rfl, by decide +kernel, rfl, by decide +kernel, by decide +kernel⟩
theorem ok__law_bag (F : Fc K mg) {fd : FuncData} (f : FunD K d__law_bag.name d__law_bag.qual d__law_bag.params d__law_bag.body d__law_bag.scope (d__law_bag.dvs K) (d__law_bag.kws K) (He.fAd K ("_law_bag", none)) fd) (hm : mg "_law_bag" = some (.ref (He.fAd K ("_law_bag", none)))) : FnB K mg base "_law_bag" d__law_bag 1 ["script", "lap"] m__law_bag fd := by
  refine ⟨FunD.okG f sc__law_bag (fun cdv A outer s H E hr hgd => ?_), f, hm⟩
  have hu : (A.deeper (envOfC d__law_bag.qual d__law_bag.scope s.heap.objs.size (He.fAd K ("_law_bag", none)) cdv)).units + 1 < cLine := by have := hr.units; omega
  exact (eb_cons (es_set (i := 2) sc__law_bag.nd rfl (Or.inl rfl) (ee_add ee_int (ee_mul ee_int (ee_var (pv 1))))) (eb_cons (es_for (passes_of rfl) rfl (ei_seq (ee_sl (ee_var (pv 0)) eo_none (eo_some ee_int))) (eg_name sc__law_bag.nd rfl (Or.inl rfl)) (eb_one (es_set (i := 2) sc__law_bag.nd rfl (Or.inl rfl) (ee_mod (ee_intO rfl F.int_ (ea_cons (ee_add (ee_add (ee_mul (ee_var (pv 2)) ee_int) (ee_mod (ee_intO rfl F.int_ (ea_cons (ee_var (pv 3)) ea_nil)) ee_int)) ee_int) ea_nil)) ee_int)))) (eb_cons (es_set (i := 4) sc__law_bag.nd rfl (Or.inl rfl) (ee_if (et_lt (ee_var (pv 1)) (ee_len rfl F.len_ (ea_cons (ee_var (pv 0)) ea_nil))) (ee_intO rfl F.int_ (ea_cons (ee_ix (ee_var (pv 0)) (ee_var (pv 1)) (by intro _ _; rfl)) ea_nil)) ee_int)) (eb_cons (es_set (i := 2) sc__law_bag.nd rfl (Or.inl rfl) (ee_mod (ee_intO rfl F.int_ (ea_cons (ee_add (ee_add (ee_mul (ee_var (pv 2)) ee_int) (ee_mul (ee_mod (ee_intO rfl F.int_ (ea_cons (ee_var (pv 4)) ea_nil)) ee_int) ee_int)) ee_int) ea_nil)) ee_int)) (eb_one (es_ret (ee_alloc (ef_lst (ea_cons (ee_if (EW.et (ew_or (et_lt (ee_var (pv 4)) ee_int) (ew_or1 (et_ge (ee_var (pv 4)) (ee_pow ee_int ee_int))))) (ee_abs rfl F.abs_ (ea_cons (ee_var (pv 4)) ea_nil)) ee_int) (ea_cons (ee_var (pv 2)) (ea_cons ee_int ea_nil)))))))))))
def N__law_take : List Str := ["bag", "top", "digit"]
theorem sc__law_take : FnScope N__law_take ["bag", "top"] (defScope (top 54)) := ⟨rfl, rfl, rfl, by decide +kernel, rfl, by decide +kernel, by decide +kernel⟩
theorem ok__law_take (F : Fc K mg) {fd : FuncData} (f : FunD K d__law_take.name d__law_take.qual d__law_take.params d__law_take.body d__law_take.scope (d__law_take.dvs K) (d__law_take.kws K) (He.fAd K ("_law_take", none)) fd) (hm : mg "_law_take" = some (.ref (He.fAd K ("_law_take", none)))) : FnB K mg base "_law_take" d__law_take 1 ["bag", "top"] m__law_take fd := by
  refine ⟨FunD.okG f sc__law_take (fun cdv A outer s H E hr hgd => ?_), f, hm⟩
  have hu : (A.deeper (envOfC d__law_take.qual d__law_take.scope s.heap.objs.size (He.fAd K ("_law_take", none)) cdv)).units + 1 < cLine := by have := hr.units; omega
  exact (eb_cons (es_if (et_gt (ee_ix (ee_var (pv 0)) ee_int (by intro _ _; rfl)) ee_int) (eb_cons (es_asg (ee_divmod rfl F.divmod_ (ea_cons (ee_ix (ee_var (pv 0)) ee_int (by intro _ _; rfl)) (ea_cons (ee_var (pv 1)) ea_nil))) (eg_tup rfl (egs_cons (eg_item (ee_var (pv 0)) ee_int) (egs_cons (eg_name sc__law_take.nd rfl (Or.inl rfl)) egs_nil)))) (eb_one (es_ret (ee_var (pv 2))))) eb_nil) (eb_cons (es_asg (ee_add (ee_ix (ee_var (pv 0)) ee_int (by intro _ _; rfl)) ee_int) (eg_item (ee_var (pv 0)) ee_int)) (eb_cons (es_asg (ee_mod (ee_intO rfl F.int_ (ea_cons (ee_add (ee_add (ee_mul (ee_ix (ee_var (pv 0)) ee_int (by intro _ _; rfl)) ee_int) (ee_mul ee_int (ee_ix (ee_var (pv 0)) ee_int (by intro _ _; rfl)))) ee_int) ea_nil)) ee_int) (eg_item (ee_var (pv 0)) ee_int)) (eb_one (es_ret (ee_mod (ee_intO rfl F.int_ (ea_cons (ee_div (ee_ix (ee_var (pv 0)) ee_int (by intro _ _; rfl)) ee_int) ea_nil)) (ee_var (pv 1))))))))
def N__law_row : List Str := ["bag", "most", "kinds", "place"]
theorem sc__law_row : FnScope N__law_row ["bag", "most"] (defScope (top 56)) := ⟨rfl, rfl, rfl, by decide +kernel, rfl, by decide +kernel, by decide +kernel⟩
theorem ok__law_row (F : Fc K mg) {fd : FuncData} (f : FunD K d__law_row.name d__law_row.qual d__law_row.params d__law_row.body d__law_row.scope (d__law_row.dvs K) (d__law_row.kws K) (He.fAd K ("_law_row", none)) fd) (hm : mg "_law_row" = some (.ref (He.fAd K ("_law_row", none)))) {fd__law_take : FuncData} (G__law_take : FnB K mg base "_law_take" d__law_take 1 ["bag", "top"] m__law_take fd__law_take) : FnB K mg base "_law_row" d__law_row 2 ["bag", "most"] m__law_row fd := by
  refine ⟨FunD.okG f sc__law_row (fun cdv A outer s H E hr hgd => ?_), f, hm⟩
  have hu : (A.deeper (envOfC d__law_row.qual d__law_row.scope s.heap.objs.size (He.fAd K ("_law_row", none)) cdv)).units + 1 < cLine := by have := hr.units; omega
  exact (eb_cons (es_set (i := 2) sc__law_row.nd rfl (Or.inr rfl) (ee_add ee_int (ee_fn G__law_take (bind__law_take_pos G__law_take.f) ⟨rfl, rfl, rfl, rfl, rfl⟩ hr (by decide) hgd (takes_of rfl rfl rfl rfl) rfl (ea_cons (ee_var (pv 0)) (ea_cons ee_int ea_nil))))) (eb_one (es_ret (ee_tup (ea_cons (ee_var (pv 2)) (ea_cons (ee_tuple rfl F.tuple_ boot_tuple (ea_cons (ee_val (ef_lc (own := [("place", 3)]) rfl sc__law_row.nd (ei_rng1 rfl F.range_ (ea_cons (ee_add ee_int (ee_fn G__law_take (bind__law_take_pos G__law_take.f) ⟨rfl, rfl, rfl, rfl, rfl⟩ hr (by decide) hgd (takes_of rfl rfl rfl rfl) rfl (ea_cons (ee_var (pv 0)) (ea_cons (ee_var (pv 1)) ea_nil)))) ea_nil)) (blkOk_by (N := N__law_row) (sc := defScope (top 56)) (by decide +kernel)) (fun s H C cl fp => (ew_name sc__law_row.nd rfl (Or.inl rfl) (by decide))) (fun s H C cl fp => ets_nil) (fun s H C cl fp => (ee_fn G__law_take (bind__law_take_pos G__law_take.f) ⟨rfl, rfl, rfl, rfl, rfl⟩ hr (by decide) hgd noTakes rfl (ea_cons (ee_var (pv 0)) (ea_cons (ee_var (pv 2)) ea_nil)))))) ea_nil)) ea_nil))))))
def N__law_pull : List Str := ["bag", "some"]
theorem sc__law_pull : FnScope N__law_pull ["bag", "some"] (defScope (top 55)) := ⟨rfl, rfl, rfl, by decide +kernel, rfl, by decide +kernel, by decide +kernel⟩
theorem ok__law_pull (F : Fc K mg) {fd : FuncData} (f : FunD K d__law_pull.name d__law_pull.qual d__law_pull.params d__law_pull.body d__law_pull.scope (d__law_pull.dvs K) (d__law_pull.kws K) (He.fAd K ("_law_pull", none)) fd) (hm : mg "_law_pull" = some (.ref (He.fAd K ("_law_pull", none)))) {fd__law_take : FuncData} (G__law_take : FnB K mg base "_law_take" d__law_take 1 ["bag", "top"] m__law_take fd__law_take) : FnB K mg base "_law_pull" d__law_pull 2 ["bag", "some"] m__law_pull fd := by
  refine ⟨FunD.okG f sc__law_pull (fun cdv A outer s H E hr hgd => ?_), f, hm⟩
  have hu : (A.deeper (envOfC d__law_pull.qual d__law_pull.scope s.heap.objs.size (He.fAd K ("_law_pull", none)) cdv)).units + 1 < cLine := by have := hr.units; omega
  exact (eb_one (es_ret (ee_ix (ee_var (pv 1)) (ee_fn G__law_take (bind__law_take_pos G__law_take.f) ⟨rfl, rfl, rfl, rfl, rfl⟩ hr (by decide) hgd (takes_of rfl rfl rfl rfl) rfl (ea_cons (ee_var (pv 0)) (ea_cons (ee_len rfl F.len_ (ea_cons (ee_var (pv 1)) ea_nil)) ea_nil))) (by intro _ _; rfl))))
def N__law_way : List Str := ["bag"]
theorem sc__law_way : FnScope N__law_way ["bag"] (defScope (top 61)) := ⟨rfl, rfl, rfl, by decide +kernel, rfl, by decide +kernel, by decide +kernel⟩
theorem ok__law_way (F : Fc K mg) {fd : FuncData} (f : FunD K d__law_way.name d__law_way.qual d__law_way.params d__law_way.body d__law_way.scope (d__law_way.dvs K) (d__law_way.kws K) (He.fAd K ("_law_way", none)) fd) (hm : mg "_law_way" = some (.ref (He.fAd K ("_law_way", none)))) {fd__law_pull : FuncData} (G__law_pull : FnB K mg base "_law_pull" d__law_pull 2 ["bag", "some"] m__law_pull fd__law_pull) : FnB K mg base "_law_way" d__law_way 3 ["bag"] m__law_way fd := by
  refine ⟨FunD.okG f sc__law_way (fun cdv A outer s H E hr hgd => ?_), f, hm⟩
  have hu : (A.deeper (envOfC d__law_way.qual d__law_way.scope s.heap.objs.size (He.fAd K ("_law_way", none)) cdv)).units + 1 < cLine := by have := hr.units; omega
  exact (eb_one (es_ret (ee_fn G__law_pull (bind__law_pull_pos G__law_pull.f) ⟨rfl, rfl, rfl, rfl, rfl⟩ hr (by decide) hgd (takes_of rfl rfl rfl rfl) rfl (ea_cons (ee_var (pv 0)) (ea_cons (ee_val (ef_lst (ea_cons ee_str (ea_cons ee_str (ea_cons ee_str (ea_cons ee_str ea_nil)))))) ea_nil)))))
def N__law_mixed : List Str := ["bag", "row", "left", "found"]
theorem sc__law_mixed : FnScope N__law_mixed ["bag", "row"] (defScope (top 57)) := ⟨rfl, rfl, rfl, by decide +kernel, rfl, by decide +kernel, by decide +kernel⟩
theorem ok__law_mixed (F : Fc K mg) {fd : FuncData} (f : FunD K d__law_mixed.name d__law_mixed.qual d__law_mixed.params d__law_mixed.body d__law_mixed.scope (d__law_mixed.dvs K) (d__law_mixed.kws K) (He.fAd K ("_law_mixed", none)) fd) (hm : mg "_law_mixed" = some (.ref (He.fAd K ("_law_mixed", none)))) {fd__law_take : FuncData} (G__law_take : FnB K mg base "_law_take" d__law_take 1 ["bag", "top"] m__law_take fd__law_take) : FnB K mg base "_law_mixed" d__law_mixed 2 ["bag", "row"] m__law_mixed fd := by
  refine ⟨FunD.okG f sc__law_mixed (fun cdv A outer s H E hr hgd => ?_), f, hm⟩
  have hu : (A.deeper (envOfC d__law_mixed.qual d__law_mixed.scope s.heap.objs.size (He.fAd K ("_law_mixed", none)) cdv)).units + 1 < cLine := by have := hr.units; omega
  exact (eb_cons (ps_par_ev (i := 2) (j := 3) rfl sc__law_mixed.nd rfl rfl (by decide) rfl rfl (els_cons (el_o (ef_list rfl F.list_ boot_list (ea_cons (ee_var (pv 1)) ea_nil))) (els_cons (el_o (ef_lst ea_nil)) els_nil)) rfl) (eb_cons (es_while 1000 (passes_of rfl) (et_ne hr.units (ee_var (pv 2)) (ee_val (ef_lst ea_nil))) (eb_one (es_do (ee_append (ee_var (pv 3)) (ea_cons (ee_pop (ee_var (pv 2)) (ea_cons (ee_fn G__law_take (bind__law_take_pos G__law_take.f) ⟨rfl, rfl, rfl, rfl, rfl⟩ hr (by decide) hgd (takes_of rfl rfl rfl rfl) rfl (ea_cons (ee_var (pv 0)) (ea_cons (ee_len rfl F.len_ (ea_cons (ee_var (pv 2)) ea_nil)) ea_nil))) ea_nil)) ea_nil))))) (eb_one (es_ret (ee_tuple rfl F.tuple_ boot_tuple (ea_cons (ee_var (pv 3)) ea_nil))))))
def N__law_steps : List Str := ["row", "way", "i", "found", "wide", "j", "rest"]
theorem sc__law_steps : FnScope N__law_steps ["row", "way"] (defScope (top 59)) := ⟨rfl, rfl, rfl, by decide +kernel, rfl, by decide +kernel, by decide +kernel⟩
theorem ok__law_steps (F : Fc K mg) {fd : FuncData} (f : FunD K d__law_steps.name d__law_steps.qual d__law_steps.params d__law_steps.body d__law_steps.scope (d__law_steps.dvs K) (d__law_steps.kws K) (He.fAd K ("_law_steps", none)) fd) (hm : mg "_law_steps" = some (.ref (He.fAd K ("_law_steps", none)))) : FnB K mg base "_law_steps" d__law_steps 1 ["row", "way"] m__law_steps fd := by
  refine ⟨FunD.okG f sc__law_steps (fun cdv A outer s H E hr hgd => ?_), f, hm⟩
  have hu : (A.deeper (envOfC d__law_steps.qual d__law_steps.scope s.heap.objs.size (He.fAd K ("_law_steps", none)) cdv)).units + 1 < cLine := by have := hr.units; omega
  exact (eb_cons (ps_par_ev (i := 3) (j := 4) rfl sc__law_steps.nd rfl rfl (by decide) rfl rfl (els_cons (el_o (ef_lst ea_nil)) (els_cons (el_v (ee_len rfl F.len_ (ea_cons (ee_var (pv 0)) ea_nil))) els_nil)) rfl) (eb_cons (es_for (passes_of rfl) rfl (ei_rng1 rfl F.range_ (ea_cons (ee_var (pv 4)) ea_nil)) (eg_name sc__law_steps.nd rfl (Or.inl rfl)) (eb_one (es_for (passes_of rfl) rfl (ei_rng1 rfl F.range_ (ea_cons (ee_var (pv 4)) ea_nil)) (eg_name sc__law_steps.nd rfl (Or.inl rfl)) (eb_one (es_if (EW.et (ew_or (et_eq hr.units (ee_var (pv 1)) ee_str) (ew_or1 (EW.et (ew_and (et_eq hr.units (ee_var (pv 1)) ee_str) (ew_and1 (et_eq hr.units (ee_var (pv 5)) ee_int))))))) (eb_cons (es_set (i := 6) sc__law_steps.nd rfl (Or.inl rfl) (ee_add (ee_sl (ee_var (pv 0)) eo_none (eo_some (ee_var (pv 2)))) (ee_sl (ee_var (pv 0)) (eo_some (ee_add (ee_var (pv 2)) ee_int)) eo_none))) (eb_one (es_do (ee_append (ee_var (pv 3)) (ea_cons (ee_add (ee_add (ee_sl (ee_var (pv 6)) eo_none (eo_some (ee_var (pv 5)))) (ee_tup (ea_cons (ee_ix (ee_var (pv 0)) (ee_var (pv 2)) (by intro _ _; rfl)) ea_nil))) (ee_sl (ee_var (pv 6)) (eo_some (ee_var (pv 5))) eo_none)) ea_nil))))) (eb_one (es_if (EW.et (ew_and (et_lt (ee_var (pv 2)) (ee_var (pv 5))) (ew_and1 (EW.et (ew_or (et_eq hr.units (ee_var (pv 1)) ee_str) (ew_or (EW.et (ew_and (et_eq hr.units (ee_var (pv 1)) ee_str) (ew_and1 (et_eq hr.units (ee_var (pv 5)) (ee_add (ee_var (pv 2)) ee_int))))) (ew_or1 (EW.et (ew_and (et_eq hr.units (ee_var (pv 1)) ee_str) (ew_and1 (et_in (ee_sub (ee_var (pv 5)) (ee_var (pv 2))) (ee_tup (ea_cons ee_int (ea_cons (ee_sub (ee_var (pv 4)) ee_int) ea_nil)))))))))))))) (eb_one (es_do (ee_append (ee_var (pv 3)) (ea_cons (ee_add (ee_add (ee_add (ee_add (ee_sl (ee_var (pv 0)) eo_none (eo_some (ee_var (pv 2)))) (ee_tup (ea_cons (ee_ix (ee_var (pv 0)) (ee_var (pv 5)) (by intro _ _; rfl)) ea_nil))) (ee_sl (ee_var (pv 0)) (eo_some (ee_add (ee_var (pv 2)) ee_int)) (eo_some (ee_var (pv 5))))) (ee_tup (ea_cons (ee_ix (ee_var (pv 0)) (ee_var (pv 2)) (by intro _ _; rfl)) ea_nil))) (ee_sl (ee_var (pv 0)) (eo_some (ee_add (ee_var (pv 5)) ee_int)) eo_none)) ea_nil)))) eb_nil))))))) (eb_one (es_ret (ee_frz (pv 3))))))
def N__law_off : List Str := ["row", "way", "found", "front", "later", "own", "each"]
theorem sc__law_off : FnScope N__law_off ["row", "way"] (defScope (top 60)) := ⟨rfl, rfl, rfl, by decide +kernel, rfl, by decide +kernel, by decide +kernel⟩
theorem ok__law_off (F : Fc K mg) {fd : FuncData} (f : FunD K d__law_off.name d__law_off.qual d__law_off.params d__law_off.body d__law_off.scope (d__law_off.dvs K) (d__law_off.kws K) (He.fAd K ("_law_off", none)) fd) (hm : mg "_law_off" = some (.ref (He.fAd K ("_law_off", none)))) {fd__law_steps : FuncData} (G__law_steps : FnB K mg base "_law_steps" d__law_steps 1 ["row", "way"] m__law_steps fd__law_steps) : FnB K mg base "_law_off" d__law_off 2 ["row", "way"] m__law_off fd := by
  refine ⟨FunD.okG f sc__law_off (fun cdv A outer s H E hr hgd => ?_), f, hm⟩
  have hu : (A.deeper (envOfC d__law_off.qual d__law_off.scope s.heap.objs.size (He.fAd K ("_law_off", none)) cdv)).units + 1 < cLine := by have := hr.units; omega
  exact (eb_cons (ps_par_ev (i := 2) (j := 3) rfl sc__law_off.nd rfl rfl (by decide) rfl rfl (els_cons (el_o (ef_done ⟨rfl, rfl⟩ hu (ee_var (pv 0)) ee_int)) (els_cons (el_v (ee_val (ef_lst (ea_cons (ee_var (pv 0)) ea_nil)))) els_nil)) rfl) (eb_cons (es_while 1000 (passes_of rfl) (et_ne hr.units (ee_var (pv 3)) (ee_val (ef_lst ea_nil))) (eb_cons (es_own (i := 4) sc__law_off.nd rfl (Or.inl rfl) (ef_lst ea_nil)) (eb_cons (es_for (passes_of rfl) rfl (ei_seq (ee_var (pv 3))) (eg_name sc__law_off.nd rfl (Or.inl rfl)) (eb_one (es_for (passes_of rfl) rfl (ei_seq (ee_fn G__law_steps (bind__law_steps_pos G__law_steps.f) ⟨rfl, rfl, rfl, rfl, rfl⟩ hr (by decide) hgd (takes_of rfl rfl rfl rfl) rfl (ea_cons (ee_var (pv 5)) (ea_cons (ee_var (pv 1)) ea_nil)))) (eg_name sc__law_off.nd rfl (Or.inl rfl)) (eb_one (es_if (et_dnotin ⟨rfl, rfl⟩ hu (ee_var (pv 6)) (ee_var (pv 2))) (eb_cons (es_dput ⟨rfl, rfl⟩ hu (ee_var (pv 2)) (ee_var (pv 6)) (ee_add (ee_dget ⟨rfl, rfl⟩ hu (ee_var (pv 2)) (ee_var (pv 5))) ee_int)) (eb_one (es_do (ee_append (ee_var (pv 4)) (ea_cons (ee_var (pv 6)) ea_nil))))) eb_nil))))) (eb_one (es_set (i := 3) sc__law_off.nd rfl (Or.inl rfl) (ee_frz (pv 4))))))) (eb_one (es_ret (ee_frz (pv 2))))))
def N__law_all_rows : List Str := ["row", "found", "place", "longer", "some", "kind"]
theorem sc__law_all_rows : FnScope N__law_all_rows ["row"] (defScope (top 58)) := ⟨rfl, rfl, rfl, by decide +kernel, rfl, by decide +kernel, by decide +kernel⟩
theorem ok__law_all_rows (F : Fc K mg) {fd : FuncData} (f : FunD K d__law_all_rows.name d__law_all_rows.qual d__law_all_rows.params d__law_all_rows.body d__law_all_rows.scope (d__law_all_rows.dvs K) (d__law_all_rows.kws K) (He.fAd K ("_law_all_rows", none)) fd) (hm : mg "_law_all_rows" = some (.ref (He.fAd K ("_law_all_rows", none)))) : FnB K mg base "_law_all_rows" d__law_all_rows 1 ["row"] m__law_all_rows fd := by
  refine ⟨FunD.okG f sc__law_all_rows (fun cdv A outer s H E hr hgd => ?_), f, hm⟩
  have hu : (A.deeper (envOfC d__law_all_rows.qual d__law_all_rows.scope s.heap.objs.size (He.fAd K ("_law_all_rows", none)) cdv)).units + 1 < cLine := by have := hr.units; omega
  exact (eb_cons (es_set (i := 1) sc__law_all_rows.nd rfl (Or.inl rfl) (ee_val (ef_lst (ea_cons (ee_tup ea_nil) ea_nil)))) (eb_cons (es_for (passes_of rfl) rfl (ei_rng1 rfl F.range_ (ea_cons (ee_len rfl F.len_ (ea_cons (ee_var (pv 0)) ea_nil)) ea_nil)) (eg_name sc__law_all_rows.nd rfl (Or.inl rfl)) (eb_cons (es_set (i := 3) sc__law_all_rows.nd rfl (Or.inl rfl) (ee_val (ef_lst ea_nil))) (eb_cons (es_for (passes_of rfl) rfl (ei_seq (ee_var (pv 1))) (eg_name sc__law_all_rows.nd rfl (Or.inr rfl)) (eb_one (es_set (i := 3) sc__law_all_rows.nd rfl (Or.inl rfl) (ee_add (ee_var (pv 3)) (ee_val (ef_lc (own := [("kind", 5)]) rfl sc__law_all_rows.nd (ei_seq (ee_val (ef_sortedSet rfl rfl F.sorted_ boot_sorted rfl F.set_ boot_set (ea_cons (ee_var (pv 0)) ea_nil)))) (blkOk_by (N := N__law_all_rows) (sc := defScope (top 58)) (by decide +kernel)) (fun s H C cl fp => (ew_name sc__law_all_rows.nd rfl (Or.inl rfl) (by decide))) (fun s H C cl fp => (ets_one (et_lt (ee_countT hr.units (ee_var (pv 4)) (ee_var (pv 5))) (ee_countT hr.units (ee_var (pv 0)) (ee_var (pv 5)))))) (fun s H C cl fp => (ee_add (ee_var (pv 4)) (ee_tup (ea_cons (ee_var (pv 5)) ea_nil)))))))))) (eb_one (es_set (i := 1) sc__law_all_rows.nd rfl (Or.inl rfl) (ee_var (pv 3))))))) (eb_one (es_ret (ee_var (pv 1))))))
def N__law_medians : List Str := ["rows", "way", "offs", "some", "sums", "row", "own", "off", "many"]
theorem sc__law_medians : FnScope N__law_medians ["rows", "way"] (defScope (top 63)) := ⟨rfl, rfl, rfl, by decide +kernel, rfl, by decide +kernel, by decide +kernel⟩
theorem ok__law_medians (F : Fc K mg) {fd : FuncData} (f : FunD K d__law_medians.name d__law_medians.qual d__law_medians.params d__law_medians.body d__law_medians.scope (d__law_medians.dvs K) (d__law_medians.kws K) (He.fAd K ("_law_medians", none)) fd) (hm : mg "_law_medians" = some (.ref (He.fAd K ("_law_medians", none)))) {fd__law_off : FuncData} (G__law_off : FnB K mg base "_law_off" d__law_off 2 ["row", "way"] m__law_off fd__law_off) {fd__law_all_rows : FuncData} (G__law_all_rows : FnB K mg base "_law_all_rows" d__law_all_rows 1 ["row"] m__law_all_rows fd__law_all_rows) : FnB K mg base "_law_medians" d__law_medians 3 ["rows", "way"] m__law_medians fd := by
  refine ⟨FunD.okG f sc__law_medians (fun cdv A outer s H E hr hgd => ?_), f, hm⟩
  have hu : (A.deeper (envOfC d__law_medians.qual d__law_medians.scope s.heap.objs.size (He.fAd K ("_law_medians", none)) cdv)).units + 1 < cLine := by have := hr.units; omega
  exact (eb_cons (es_set (i := 2) sc__law_medians.nd rfl (Or.inr rfl) (ee_val (ef_lc (own := [("row", 5)]) rfl sc__law_medians.nd (ei_seq (ee_var (pv 0))) (blkOk_by (N := N__law_medians) (sc := defScope (top 63)) (by decide +kernel)) (fun s H C cl fp => (ew_name sc__law_medians.nd rfl (Or.inl rfl) (by decide))) (fun s H C cl fp => ets_nil) (fun s H C cl fp => (ee_fn G__law_off (bind__law_off_pos G__law_off.f) ⟨rfl, rfl, rfl, rfl, rfl⟩ hr (by decide) hgd noTakes rfl (ea_cons (ee_var (pv 5)) (ea_cons (ee_var (pv 1)) ea_nil))))))) (eb_cons (es_set (i := 3) sc__law_medians.nd rfl (Or.inl rfl) (ee_fn G__law_all_rows (bind__law_all_rows_pos G__law_all_rows.f) ⟨rfl, rfl, rfl, rfl, rfl⟩ hr (by decide) hgd (takes_of rfl rfl rfl rfl) rfl (ea_cons (ee_ix (ee_var (pv 0)) ee_int (by intro _ _; rfl)) ea_nil))) (eb_cons (es_set (i := 4) sc__law_medians.nd rfl (Or.inr rfl) (ee_val (ef_lc (own := [("own", 6)]) rfl sc__law_medians.nd (ei_seq (ee_var (pv 3))) (blkOk_by (N := N__law_medians) (sc := defScope (top 63)) (by decide +kernel)) (fun s H C cl fp => (ew_name sc__law_medians.nd rfl (Or.inr rfl) (by decide))) (fun s H C cl fp => ets_nil) (fun s H C cl fp => (ee_sum rfl rfl F.sum_ (ea_cons (ee_val (ef_lc (own := [("off", 7)]) rfl sc__law_medians.nd (ei_seq (ee_var (pv 2))) (blkOk_by rfl) (fun s H C cl fp => (ew_name sc__law_medians.nd rfl (Or.inl rfl) (by decide))) (fun s H C cl fp => ets_nil) (fun s H C cl fp => (ee_dget ⟨rfl, rfl⟩ hu (ee_var (pv 7)) (ee_var (pv 6)))))) ea_nil)))))) (eb_one (es_ret (ee_tup (ea_cons (ee_min rfl rfl F.min_ (ea_cons (ee_var (pv 4)) ea_nil)) (ea_cons (ee_tuple rfl F.tuple_ boot_tuple (ea_cons (ee_val (ef_lc (own := [("own", 6), ("many", 8)]) rfl sc__law_medians.nd (ei_zip rfl F.zip_ (ea_cons (ee_var (pv 3)) (ea_cons (ee_var (pv 4)) ea_nil))) (blkOk_by (N := N__law_medians) (sc := defScope (top 63)) (by decide +kernel)) (fun s H C cl fp => (ew_tup rfl (ews_cons (ew_name sc__law_medians.nd rfl (Or.inl rfl) (by decide)) (ews_cons (ew_name sc__law_medians.nd rfl (Or.inl rfl) (by decide)) ews_nil)))) (fun s H C cl fp => (ets_one (et_eq hr.units (ee_var (pv 8)) (ee_min rfl rfl F.min_ (ea_cons (ee_var (pv 4)) ea_nil))))) (fun s H C cl fp => (ee_var (pv 6))))) ea_nil)) ea_nil))))))))
def N_is_whole : List Str := ["value"]
theorem sc_is_whole : FnScope N_is_whole ["value"] (defScope (top 7)) := ⟨rfl, rfl, rfl, by decide +kernel, rfl, by decide +kernel, by decide +kernel⟩
theorem ok_is_whole (F : Fc K mg) {fd : FuncData} (f : FunD K d_is_whole.name d_is_whole.qual d_is_whole.params d_is_whole.body d_is_whole.scope (d_is_whole.dvs K) (d_is_whole.kws K) (He.fAd K ("is_whole", none)) fd) (hm : mg "is_whole" = some (.ref (He.fAd K ("is_whole", none)))) : FnB K mg base "is_whole" d_is_whole 1 ["value"] m_is_whole fd := by
  refine ⟨FunD.okG f sc_is_whole (fun cdv A outer s H E hr hgd => ?_), f, hm⟩
  have hu : (A.deeper (envOfC d_is_whole.qual d_is_whole.scope s.heap.objs.size (He.fAd K ("is_whole", none)) cdv)).units + 1 < cLine := by have := hr.units; omega
  exact (eb_one (es_ret (ee_and (ee_isi rfl F.isinstance_ (ea_cons (ee_var (pv 0)) (ea_cons (ee_ty (t := .int) rfl F.int_ boot_int) ea_nil))) (ee_one (ee_not (ee_isi rfl F.isinstance_ (ea_cons (ee_var (pv 0)) (ea_cons (ee_ty (t := .bl) rfl F.bool_ boot_bool) ea_nil))))))))
def N_is_between : List Str := ["value", "least", "most"]
theorem sc_is_between : FnScope N_is_between ["value", "least", "most"] (defScope (top 8)) := ⟨rfl, rfl, rfl, by decide +kernel, rfl, by decide +kernel, by decide +kernel⟩
theorem ok_is_between (F : Fc K mg) {fd : FuncData} (f : FunD K d_is_between.name d_is_between.qual d_is_between.params d_is_between.body d_is_between.scope (d_is_between.dvs K) (d_is_between.kws K) (He.fAd K ("is_between", none)) fd) (hm : mg "is_between" = some (.ref (He.fAd K ("is_between", none)))) {fd_is_whole : FuncData} (G_is_whole : FnB K mg base "is_whole" d_is_whole 1 ["value"] m_is_whole fd_is_whole) : FnB K mg base "is_between" d_is_between 2 ["value", "least", "most"] m_is_between fd := by
  refine ⟨FunD.okG f sc_is_between (fun cdv A outer s H E hr hgd => ?_), f, hm⟩
  have hu : (A.deeper (envOfC d_is_between.qual d_is_between.scope s.heap.objs.size (He.fAd K ("is_between", none)) cdv)).units + 1 < cLine := by have := hr.units; omega
  exact (eb_one (es_ret (ee_and (ee_fn G_is_whole (bind_is_whole_pos G_is_whole.f) ⟨rfl, rfl, rfl, rfl, rfl⟩ hr (by decide) hgd (takes_of rfl rfl rfl rfl) rfl (ea_cons (ee_var (pv 0)) ea_nil)) (ee_one (ee_lele (ee_var (pv 1)) (ee_var (pv 0)) (ee_var (pv 2)))))))
def N_is_kinds : List Str := ["value"]
theorem sc_is_kinds : FnScope N_is_kinds ["value"] (defScope (top 17)) := ⟨rfl, rfl, rfl, by decide +kernel, rfl, by decide +kernel, by decide +kernel⟩
theorem ok_is_kinds (F : Fc K mg) {fd : FuncData} (f : FunD K d_is_kinds.name d_is_kinds.qual d_is_kinds.params d_is_kinds.body d_is_kinds.scope (d_is_kinds.dvs K) (d_is_kinds.kws K) (He.fAd K ("is_kinds", none)) fd) (hm : mg "is_kinds" = some (.ref (He.fAd K ("is_kinds", none)))) {fd_is_between : FuncData} (G_is_between : FnB K mg base "is_between" d_is_between 2 ["value", "least", "most"] m_is_between fd_is_between) : FnB K mg base "is_kinds" d_is_kinds 3 ["value"] m_is_kinds fd := by
  refine ⟨FunD.okG f sc_is_kinds (fun cdv A outer s H E hr hgd => ?_), f, hm⟩
  have hu : (A.deeper (envOfC d_is_kinds.qual d_is_kinds.scope s.heap.objs.size (He.fAd K ("is_kinds", none)) cdv)).units + 1 < cLine := by have := hr.units; omega
  exact (eb_one (es_ret (ee_fn G_is_between (bind_is_between_pos G_is_between.f) ⟨rfl, rfl, rfl, rfl, rfl⟩ hr (by decide) hgd (takes_of rfl rfl rfl rfl) rfl (ea_cons (ee_var (pv 0)) (ea_cons (ee_gint rfl F.c_FEWEST_KINDS) (ea_cons (ee_gint rfl F.c_MOST_KINDS) ea_nil))))))
def N_check_kinds : List Str := ["kinds"]
theorem sc_check_kinds : FnScope N_check_kinds ["kinds"] (defScope (top 18)) := ⟨rfl, rfl, rfl, by decide +kernel, rfl, by decide +kernel, by decide +kernel⟩
theorem ok_check_kinds (F : Fc K mg) {fd : FuncData} (f : FunD K d_check_kinds.name d_check_kinds.qual d_check_kinds.params d_check_kinds.body d_check_kinds.scope (d_check_kinds.dvs K) (d_check_kinds.kws K) (He.fAd K ("check_kinds", none)) fd) (hm : mg "check_kinds" = some (.ref (He.fAd K ("check_kinds", none)))) {fd_is_kinds : FuncData} (G_is_kinds : FnB K mg base "is_kinds" d_is_kinds 3 ["value"] m_is_kinds fd_is_kinds) : FnB K mg base "check_kinds" d_check_kinds 4 ["kinds"] m_check_kinds fd := by
  refine ⟨FunD.okG f sc_check_kinds (fun cdv A outer s H E hr hgd => ?_), f, hm⟩
  have hu : (A.deeper (envOfC d_check_kinds.qual d_check_kinds.scope s.heap.objs.size (He.fAd K ("check_kinds", none)) cdv)).units + 1 < cLine := by have := hr.units; omega
  exact (eb_one (es_if (et_not (et_val (ee_fn G_is_kinds (bind_is_kinds_pos G_is_kinds.f) ⟨rfl, rfl, rfl, rfl, rfl⟩ hr (by decide) hgd (takes_of rfl rfl rfl rfl) rfl (ea_cons (ee_var (pv 0)) ea_nil)))) (eb_one es_bad) eb_nil))
def N_is_row_values : List Str := ["value", "least", "most"]
theorem sc_is_row_values : FnScope N_is_row_values ["value", "least", "most"] (defScope (top 10)) := ⟨rfl, rfl, rfl, by decide +kernel, rfl, by decide +kernel, by decide +kernel⟩
theorem ok_is_row_values (F : Fc K mg) {fd : FuncData} (f : FunD K d_is_row_values.name d_is_row_values.qual d_is_row_values.params d_is_row_values.body d_is_row_values.scope (d_is_row_values.dvs K) (d_is_row_values.kws K) (He.fAd K ("is_row_values", none)) fd) (hm : mg "is_row_values" = some (.ref (He.fAd K ("is_row_values", none)))) : FnB K mg base "is_row_values" d_is_row_values 1 ["value", "least", "most"] m_is_row_values fd := by
  refine ⟨FunD.okG f sc_is_row_values (fun cdv A outer s H E hr hgd => ?_), f, hm⟩
  have hu : (A.deeper (envOfC d_is_row_values.qual d_is_row_values.scope s.heap.objs.size (He.fAd K ("is_row_values", none)) cdv)).units + 1 < cLine := by have := hr.units; omega
  exact (eb_one (es_ret (ee_and (ee_isi rfl F.isinstance_ (ea_cons (ee_var (pv 0)) (ea_cons (ee_ty (t := .tup) rfl F.tuple_ boot_tuple) ea_nil))) (ee_one (ee_lele (ee_var (pv 1)) (ee_len rfl F.len_ (ea_cons (ee_var (pv 0)) ea_nil)) (ee_var (pv 2)))))))
def N_is_kind : List Str := ["kinds", "value"]
theorem sc_is_kind : FnScope N_is_kind ["kinds", "value"] (defScope (top 19)) := ⟨rfl, rfl, rfl, by decide +kernel, rfl, by decide +kernel, by decide +kernel⟩
theorem ok_is_kind (F : Fc K mg) {fd : FuncData} (f : FunD K d_is_kind.name d_is_kind.qual d_is_kind.params d_is_kind.body d_is_kind.scope (d_is_kind.dvs K) (d_is_kind.kws K) (He.fAd K ("is_kind", none)) fd) (hm : mg "is_kind" = some (.ref (He.fAd K ("is_kind", none)))) {fd_is_between : FuncData} (G_is_between : FnB K mg base "is_between" d_is_between 2 ["value", "least", "most"] m_is_between fd_is_between) : FnB K mg base "is_kind" d_is_kind 3 ["kinds", "value"] m_is_kind fd := by
  refine ⟨FunD.okG f sc_is_kind (fun cdv A outer s H E hr hgd => ?_), f, hm⟩
  have hu : (A.deeper (envOfC d_is_kind.qual d_is_kind.scope s.heap.objs.size (He.fAd K ("is_kind", none)) cdv)).units + 1 < cLine := by have := hr.units; omega
  exact (eb_one (es_ret (ee_fn G_is_between (bind_is_between_pos G_is_between.f) ⟨rfl, rfl, rfl, rfl, rfl⟩ hr (by decide) hgd (takes_of rfl rfl rfl rfl) rfl (ea_cons (ee_var (pv 1)) (ea_cons ee_int (ea_cons (ee_sub (ee_var (pv 0)) ee_int) ea_nil))))))
def N_is_row_wants : List Str := ["kinds", "value", "own"]
theorem sc_is_row_wants : FnScope N_is_row_wants ["kinds", "value"] (defScope (top 20)) := ⟨rfl, rfl, rfl, by decide +kernel, rfl, by decide +kernel, by decide +kernel⟩
theorem ok_is_row_wants (F : Fc K mg) {fd : FuncData} (f : FunD K d_is_row_wants.name d_is_row_wants.qual d_is_row_wants.params d_is_row_wants.body d_is_row_wants.scope (d_is_row_wants.dvs K) (d_is_row_wants.kws K) (He.fAd K ("is_row_wants", none)) fd) (hm : mg "is_row_wants" = some (.ref (He.fAd K ("is_row_wants", none)))) {fd_is_kind : FuncData} (G_is_kind : FnB K mg base "is_kind" d_is_kind 3 ["kinds", "value"] m_is_kind fd_is_kind) : FnB K mg base "is_row_wants" d_is_row_wants 4 ["kinds", "value"] m_is_row_wants fd := by
  refine ⟨FunD.okG f sc_is_row_wants (fun cdv A outer s H E hr hgd => ?_), f, hm⟩
  have hu : (A.deeper (envOfC d_is_row_wants.qual d_is_row_wants.scope s.heap.objs.size (He.fAd K ("is_row_wants", none)) cdv)).units + 1 < cLine := by have := hr.units; omega
  exact (eb_cons (es_if (EW.et (ew_or (et_not (et_val (ee_isi rfl F.isinstance_ (ea_cons (ee_var (pv 1)) (ea_cons (ee_ty (t := .tup) rfl F.tuple_ boot_tuple) ea_nil))))) (ew_or1 (et_not (et_lele ee_int (ee_len rfl F.len_ (ea_cons (ee_var (pv 1)) ea_nil)) (ee_gint rfl F.c_MOST_PLACES)))))) (eb_one (es_ret ee_bl)) eb_nil) (eb_one (es_ret (ee_all rfl rfl F.all_ (ea_cons (ee_val (ef_lc (own := [("own", 2)]) rfl sc_is_row_wants.nd (ei_seq (ee_var (pv 1))) (blkOk_by (N := N_is_row_wants) (sc := defScope (top 20)) (by decide +kernel)) (fun s H C cl fp => (ew_name sc_is_row_wants.nd rfl (Or.inl rfl) (by decide))) (fun s H C cl fp => ets_nil) (fun s H C cl fp => (ee_fn G_is_kind (bind_is_kind_pos G_is_kind.f) ⟨rfl, rfl, rfl, rfl, rfl⟩ hr (by decide) hgd noTakes rfl (ea_cons (ee_var (pv 0)) (ea_cons (ee_var (pv 2)) ea_nil)))))) ea_nil)))))
def N_is_goal : List Str := ["kinds", "row", "value"]
theorem sc_is_goal : FnScope N_is_goal ["kinds", "row", "value"] (defScope (top 22)) := ⟨rfl, rfl, rfl, by decide +kernel, rfl, by decide +kernel, by decide +kernel⟩
theorem ok_is_goal (F : Fc K mg) {fd : FuncData} (f : FunD K d_is_goal.name d_is_goal.qual d_is_goal.params d_is_goal.body d_is_goal.scope (d_is_goal.dvs K) (d_is_goal.kws K) (He.fAd K ("is_goal", none)) fd) (hm : mg "is_goal" = some (.ref (He.fAd K ("is_goal", none)))) {fd_is_row_wants : FuncData} (G_is_row_wants : FnB K mg base "is_row_wants" d_is_row_wants 4 ["kinds", "value"] m_is_row_wants fd_is_row_wants) : FnB K mg base "is_goal" d_is_goal 5 ["kinds", "row", "value"] m_is_goal fd := by
  refine ⟨FunD.okG f sc_is_goal (fun cdv A outer s H E hr hgd => ?_), f, hm⟩
  have hu : (A.deeper (envOfC d_is_goal.qual d_is_goal.scope s.heap.objs.size (He.fAd K ("is_goal", none)) cdv)).units + 1 < cLine := by have := hr.units; omega
  exact (eb_one (es_ret (ee_and (ee_fn G_is_row_wants (bind_is_row_wants_pos G_is_row_wants.f) ⟨rfl, rfl, rfl, rfl, rfl⟩ hr (by decide) hgd (takes_of rfl rfl rfl rfl) rfl (ea_cons (ee_var (pv 0)) (ea_cons (ee_var (pv 2)) ea_nil))) (ee_one (ee_eq hr.units (ee_val (ef_sorted hr.units rfl F.sorted_ boot_sorted (ea_cons (ee_var (pv 2)) ea_nil))) (ee_val (ef_sorted hr.units rfl F.sorted_ boot_sorted (ea_cons (ee_var (pv 1)) ea_nil))))))))
def N_is_string : List Str := ["value"]
theorem sc_is_string : FnScope N_is_string ["value"] (defScope (top 9)) := ⟨rfl, rfl, rfl, by decide +kernel, rfl, by decide +kernel, by decide +kernel⟩
theorem ok_is_string (F : Fc K mg) {fd : FuncData} (f : FunD K d_is_string.name d_is_string.qual d_is_string.params d_is_string.body d_is_string.scope (d_is_string.dvs K) (d_is_string.kws K) (He.fAd K ("is_string", none)) fd) (hm : mg "is_string" = some (.ref (He.fAd K ("is_string", none)))) : FnB K mg base "is_string" d_is_string 1 ["value"] m_is_string fd := by
  refine ⟨FunD.okG f sc_is_string (fun cdv A outer s H E hr hgd => ?_), f, hm⟩
  have hu : (A.deeper (envOfC d_is_string.qual d_is_string.scope s.heap.objs.size (He.fAd K ("is_string", none)) cdv)).units + 1 < cLine := by have := hr.units; omega
  exact (eb_one (es_ret (ee_isi rfl F.isinstance_ (ea_cons (ee_var (pv 0)) (ea_cons (ee_ty (t := .str) rfl F.str_ boot_str) ea_nil)))))
def N_is_way : List Str := ["value"]
theorem sc_is_way : FnScope N_is_way ["value"] (defScope (top 40)) := ⟨rfl, rfl, rfl, by decide +kernel, rfl, by decide +kernel, by decide +kernel⟩
theorem ok_is_way (F : Fc K mg) {fd : FuncData} (f : FunD K d_is_way.name d_is_way.qual d_is_way.params d_is_way.body d_is_way.scope (d_is_way.dvs K) (d_is_way.kws K) (He.fAd K ("is_way", none)) fd) (hm : mg "is_way" = some (.ref (He.fAd K ("is_way", none)))) {fd_is_string : FuncData} (G_is_string : FnB K mg base "is_string" d_is_string 1 ["value"] m_is_string fd_is_string) : FnB K mg base "is_way" d_is_way 2 ["value"] m_is_way fd := by
  refine ⟨FunD.okG f sc_is_way (fun cdv A outer s H E hr hgd => ?_), f, hm⟩
  have hu : (A.deeper (envOfC d_is_way.qual d_is_way.scope s.heap.objs.size (He.fAd K ("is_way", none)) cdv)).units + 1 < cLine := by have := hr.units; omega
  exact (eb_one (es_ret (ee_and (ee_fn G_is_string (bind_is_string_pos G_is_string.f) ⟨rfl, rfl, rfl, rfl, rfl⟩ hr (by decide) hgd (takes_of rfl rfl rfl rfl) rfl (ea_cons (ee_var (pv 0)) ea_nil)) (ee_one (ee_in (ee_var (pv 0)) (ee_gtup rfl F.c_WAYS.1 F.c_WAYS.2))))))
def N_check_way : List Str := ["way"]
theorem sc_check_way : FnScope N_check_way ["way"] (defScope (top 41)) := ⟨rfl, rfl, rfl, by decide +kernel, rfl, by decide +kernel, by decide +kernel⟩
theorem ok_check_way (F : Fc K mg) {fd : FuncData} (f : FunD K d_check_way.name d_check_way.qual d_check_way.params d_check_way.body d_check_way.scope (d_check_way.dvs K) (d_check_way.kws K) (He.fAd K ("check_way", none)) fd) (hm : mg "check_way" = some (.ref (He.fAd K ("check_way", none)))) {fd_is_way : FuncData} (G_is_way : FnB K mg base "is_way" d_is_way 2 ["value"] m_is_way fd_is_way) : FnB K mg base "check_way" d_check_way 3 ["way"] m_check_way fd := by
  refine ⟨FunD.okG f sc_check_way (fun cdv A outer s H E hr hgd => ?_), f, hm⟩
  have hu : (A.deeper (envOfC d_check_way.qual d_check_way.scope s.heap.objs.size (He.fAd K ("check_way", none)) cdv)).units + 1 < cLine := by have := hr.units; omega
  exact (eb_one (es_if (et_not (et_val (ee_fn G_is_way (bind_is_way_pos G_is_way.f) ⟨rfl, rfl, rfl, rfl, rfl⟩ hr (by decide) hgd (takes_of rfl rfl rfl rfl) rfl (ea_cons (ee_var (pv 0)) ea_nil)))) (eb_one es_bad) eb_nil))
def N_check_rows : List Str := ["kinds", "rows", "way", "own"]
theorem sc_check_rows : FnScope N_check_rows ["kinds", "rows", "way"] (defScope (top 48)) := ⟨rfl, rfl, rfl, by decide +kernel, rfl, by decide +kernel, by decide +kernel⟩
theorem ok_check_rows (F : Fc K mg) {fd : FuncData} (f : FunD K d_check_rows.name d_check_rows.qual d_check_rows.params d_check_rows.body d_check_rows.scope (d_check_rows.dvs K) (d_check_rows.kws K) (He.fAd K ("check_rows", none)) fd) (hm : mg "check_rows" = some (.ref (He.fAd K ("check_rows", none)))) {fd_check_kinds : FuncData} (G_check_kinds : FnB K mg base "check_kinds" d_check_kinds 4 ["kinds"] m_check_kinds fd_check_kinds) {fd_is_row_values : FuncData} (G_is_row_values : FnB K mg base "is_row_values" d_is_row_values 1 ["value", "least", "most"] m_is_row_values fd_is_row_values) {fd_is_row_wants : FuncData} (G_is_row_wants : FnB K mg base "is_row_wants" d_is_row_wants 4 ["kinds", "value"] m_is_row_wants fd_is_row_wants) {fd_is_goal : FuncData} (G_is_goal : FnB K mg base "is_goal" d_is_goal 5 ["kinds", "row", "value"] m_is_goal fd_is_goal) {fd_check_way : FuncData} (G_check_way : FnB K mg base "check_way" d_check_way 3 ["way"] m_check_way fd_check_way) : FnB K mg base "check_rows" d_check_rows 6 ["kinds", "rows", "way"] m_check_rows fd := by
  refine ⟨FunD.okG f sc_check_rows (fun cdv A outer s H E hr hgd => ?_), f, hm⟩
  have hu : (A.deeper (envOfC d_check_rows.qual d_check_rows.scope s.heap.objs.size (He.fAd K ("check_rows", none)) cdv)).units + 1 < cLine := by have := hr.units; omega
  exact (eb_cons (es_do (ee_fn G_check_kinds (bind_check_kinds_pos G_check_kinds.f) ⟨rfl, rfl, rfl, rfl, rfl⟩ hr (by decide) hgd (takes_of rfl rfl rfl rfl) rfl (ea_cons (ee_var (pv 0)) ea_nil))) (eb_cons (es_if (et_not (et_val (ee_fn G_is_row_values (bind_is_row_values_pos G_is_row_values.f) ⟨rfl, rfl, rfl, rfl, rfl⟩ hr (by decide) hgd (takes_of rfl rfl rfl rfl) rfl (ea_cons (ee_var (pv 1)) (ea_cons ee_int (ea_cons (ee_gint rfl F.c_MOST_ROWS) ea_nil)))))) (eb_one es_bad) eb_nil) (eb_cons (es_for (passes_of rfl) rfl (ei_seq (ee_var (pv 1))) (eg_name sc_check_rows.nd rfl (Or.inl rfl)) (eb_one (es_if (EW.et (ew_or (et_not (et_val (ee_fn G_is_row_wants (bind_is_row_wants_pos G_is_row_wants.f) ⟨rfl, rfl, rfl, rfl, rfl⟩ hr (by decide) hgd (takes_of rfl rfl rfl rfl) rfl (ea_cons (ee_var (pv 0)) (ea_cons (ee_var (pv 3)) ea_nil))))) (ew_or (et_not (et_val (ee_fn G_is_row_wants (bind_is_row_wants_pos G_is_row_wants.f) ⟨rfl, rfl, rfl, rfl, rfl⟩ hr (by decide) hgd (takes_of rfl rfl rfl rfl) rfl (ea_cons (ee_var (pv 0)) (ea_cons (ee_ix (ee_var (pv 1)) ee_int (by intro _ _; rfl)) ea_nil))))) (ew_or1 (et_not (et_val (ee_fn G_is_goal (bind_is_goal_pos G_is_goal.f) ⟨rfl, rfl, rfl, rfl, rfl⟩ hr (by decide) hgd (takes_of rfl rfl rfl rfl) rfl (ea_cons (ee_var (pv 0)) (ea_cons (ee_ix (ee_var (pv 1)) ee_int (by intro _ _; rfl)) (ea_cons (ee_var (pv 3)) ea_nil)))))))))) (eb_one es_bad) eb_nil))) (eb_one (es_do (ee_fn G_check_way (bind_check_way_pos G_check_way.f) ⟨rfl, rfl, rfl, rfl, rfl⟩ hr (by decide) hgd (takes_of rfl rfl rfl rfl) rfl (ea_cons (ee_var (pv 2)) ea_nil)))))))
def N_pairs_of : List Str := ["row", "way", "last", "pairs", "one", "other", "place"]
theorem sc_pairs_of : FnScope N_pairs_of ["row", "way"] (defScope (top 36)) := ⟨rfl, rfl, rfl, by decide +kernel, rfl, by decide +kernel, by decide +kernel⟩
theorem ok_pairs_of (F : Fc K mg) {fd : FuncData} (f : FunD K d_pairs_of.name d_pairs_of.qual d_pairs_of.params d_pairs_of.body d_pairs_of.scope (d_pairs_of.dvs K) (d_pairs_of.kws K) (He.fAd K ("pairs_of", none)) fd) (hm : mg "pairs_of" = some (.ref (He.fAd K ("pairs_of", none)))) : FnB K mg base "pairs_of" d_pairs_of 1 ["row", "way"] m_pairs_of fd := by
  refine ⟨FunD.okG f sc_pairs_of (fun cdv A outer s H E hr hgd => ?_), f, hm⟩
  have hu : (A.deeper (envOfC d_pairs_of.qual d_pairs_of.scope s.heap.objs.size (He.fAd K ("pairs_of", none)) cdv)).units + 1 < cLine := by have := hr.units; omega
  exact (eb_cons (es_set (i := 2) sc_pairs_of.nd rfl (Or.inl rfl) (ee_sub (ee_len rfl F.len_ (ea_cons (ee_var (pv 0)) ea_nil)) ee_int)) (eb_cons (es_if (et_eq hr.units (ee_var (pv 1)) (ee_gstr rfl F.c_NEAR)) (eb_one (es_ret (ee_val (ef_lc (own := [("place", 6)]) rfl sc_pairs_of.nd (ei_rng1 rfl F.range_ (ea_cons (ee_var (pv 2)) ea_nil)) (blkOk_by (N := N_pairs_of) (sc := defScope (top 36)) (by decide +kernel)) (fun s H C cl fp => (ew_name sc_pairs_of.nd rfl (Or.inl rfl) (by decide))) (fun s H C cl fp => ets_nil) (fun s H C cl fp => (ee_tup (ea_cons (ee_var (pv 6)) (ea_cons (ee_add (ee_var (pv 6)) ee_int) ea_nil)))))))) eb_nil) (eb_cons (es_if (et_eq hr.units (ee_var (pv 1)) (ee_gstr rfl F.c_RING)) (eb_one (es_ret (ee_add (ee_val (ef_lc (own := [("place", 6)]) rfl sc_pairs_of.nd (ei_rng1 rfl F.range_ (ea_cons (ee_var (pv 2)) ea_nil)) (blkOk_by (N := N_pairs_of) (sc := defScope (top 36)) (by decide +kernel)) (fun s H C cl fp => (ew_name sc_pairs_of.nd rfl (Or.inl rfl) (by decide))) (fun s H C cl fp => ets_nil) (fun s H C cl fp => (ee_tup (ea_cons (ee_var (pv 6)) (ea_cons (ee_add (ee_var (pv 6)) ee_int) ea_nil)))))) (ee_val (ef_if (et_gt (ee_var (pv 2)) ee_int) (ef_lst (ea_cons (ee_tup (ea_cons ee_int (ea_cons (ee_var (pv 2)) ea_nil))) ea_nil)) (ef_lst ea_nil)))))) eb_nil) (eb_cons (es_if (et_in (ee_var (pv 1)) (ee_tup (ea_cons (ee_gstr rfl F.c_FRONT) (ea_cons (ee_gstr rfl F.c_FLIP) ea_nil)))) (eb_one (es_ret (ee_val (ef_lc (own := [("place", 6)]) rfl sc_pairs_of.nd (ei_rng2 rfl F.range_ (ea_cons ee_int (ea_cons (ee_len rfl F.len_ (ea_cons (ee_var (pv 0)) ea_nil)) ea_nil))) (blkOk_by (N := N_pairs_of) (sc := defScope (top 36)) (by decide +kernel)) (fun s H C cl fp => (ew_name sc_pairs_of.nd rfl (Or.inl rfl) (by decide))) (fun s H C cl fp => ets_nil) (fun s H C cl fp => (ee_tup (ea_cons ee_int (ea_cons (ee_var (pv 6)) ea_nil)))))))) eb_nil) (eb_cons (es_lc2v (i := 3) (own := [("one", 4), ("other", 5)]) (vs1 := [5]) rfl sc_pairs_of.nd rfl rfl (sw_true rfl rfl rfl rfl) (ei_rng1 rfl F.range_ (ea_cons (ee_len rfl F.len_ (ea_cons (ee_var (pv 0)) ea_nil)) ea_nil)) (blkOk_by (N := N_pairs_of) (sc := defScope (top 36)) (by decide +kernel)) (by decide) (fun s H C cl fp => (ew_name sc_pairs_of.nd rfl (Or.inl rfl) (by decide))) (fun s H C cl fp => ets_nil) (fun s H C cl fp => (ei_rng1 rfl F.range_ (ea_cons (ee_len rfl F.len_ (ea_cons (ee_var (pv 0)) ea_nil)) ea_nil))) (fun s H C cl fp => (ew_name sc_pairs_of.nd rfl (Or.inl rfl) (by decide))) (fun s H C cl fp => (ets_one (et_ne hr.units (ee_var (pv 4)) (ee_var (pv 5))))) (fun s H C cl fp => (ee_tup (ea_cons (ee_var (pv 4)) (ea_cons (ee_var (pv 5)) ea_nil))))) (eb_one (es_ret (ee_if (et_eq hr.units (ee_var (pv 1)) (ee_gstr rfl F.c_MOVE)) (ee_var (pv 3)) (ee_val (ef_lc (own := [("one", 4), ("other", 5)]) rfl sc_pairs_of.nd (ei_seq (ee_var (pv 3))) (blkOk_by (N := N_pairs_of) (sc := defScope (top 36)) (by decide +kernel)) (fun s H C cl fp => (ew_tup rfl (ews_cons (ew_name sc_pairs_of.nd rfl (Or.inl rfl) (by decide)) (ews_cons (ew_name sc_pairs_of.nd rfl (Or.inl rfl) (by decide)) ews_nil)))) (fun s H C cl fp => (ets_one (et_lt (ee_var (pv 4)) (ee_var (pv 5))))) (fun s H C cl fp => (ee_tup (ea_cons (ee_var (pv 4)) (ea_cons (ee_var (pv 5)) ea_nil))))))))))))))
def N_shifted : List Str := ["row", "one", "other", "left"]
theorem sc_shifted : FnScope N_shifted ["row", "one", "other"] (defScope (top 24)) := ⟨rfl, rfl, rfl, by decide +kernel, rfl, by decide +kernel, by decide +kernel⟩
theorem ok_shifted (F : Fc K mg) {fd : FuncData} (f : FunD K d_shifted.name d_shifted.qual d_shifted.params d_shifted.body d_shifted.scope (d_shifted.dvs K) (d_shifted.kws K) (He.fAd K ("shifted", none)) fd) (hm : mg "shifted" = some (.ref (He.fAd K ("shifted", none)))) : FnB K mg base "shifted" d_shifted 1 ["row", "one", "other"] m_shifted fd := by
  refine ⟨FunD.okG f sc_shifted (fun cdv A outer s H E hr hgd => ?_), f, hm⟩
  have hu : (A.deeper (envOfC d_shifted.qual d_shifted.scope s.heap.objs.size (He.fAd K ("shifted", none)) cdv)).units + 1 < cLine := by have := hr.units; omega
  exact (eb_cons (es_set (i := 3) sc_shifted.nd rfl (Or.inl rfl) (ee_val (ef_lst (ea_star (ee_sl (ee_var (pv 0)) eo_none (eo_some (ee_var (pv 1)))) (ea_star (ee_sl (ee_var (pv 0)) (eo_some (ee_add (ee_var (pv 1)) ee_int)) eo_none) ea_nil))))) (eb_one (es_ret (ee_tup (ea_star (ee_sl (ee_var (pv 3)) eo_none (eo_some (ee_var (pv 2)))) (ea_cons (ee_ix (ee_var (pv 0)) (ee_var (pv 1)) (by intro _ _; rfl)) (ea_star (ee_sl (ee_var (pv 3)) (eo_some (ee_var (pv 2))) eo_none) ea_nil)))))))
def N_put_in_each : List Str := ["row", "one", "other", "found"]
theorem sc_put_in_each : FnScope N_put_in_each ["row", "one", "other"] (defScope (top 23)) := ⟨rfl, rfl, rfl, by decide +kernel, rfl, by decide +kernel, by decide +kernel⟩
theorem ok_put_in_each (F : Fc K mg) {fd : FuncData} (f : FunD K d_put_in_each.name d_put_in_each.qual d_put_in_each.params d_put_in_each.body d_put_in_each.scope (d_put_in_each.dvs K) (d_put_in_each.kws K) (He.fAd K ("put_in_each", none)) fd) (hm : mg "put_in_each" = some (.ref (He.fAd K ("put_in_each", none)))) : FnB K mg base "put_in_each" d_put_in_each 1 ["row", "one", "other"] m_put_in_each fd := by
  refine ⟨FunD.okG f sc_put_in_each (fun cdv A outer s H E hr hgd => ?_), f, hm⟩
  have hu : (A.deeper (envOfC d_put_in_each.qual d_put_in_each.scope s.heap.objs.size (He.fAd K ("put_in_each", none)) cdv)).units + 1 < cLine := by have := hr.units; omega
  exact (eb_cons (es_own (i := 3) sc_put_in_each.nd rfl (Or.inl rfl) (ef_list rfl F.list_ boot_list (ea_cons (ee_var (pv 0)) ea_nil))) (eb_cons (es_asg (ee_tup (ea_cons (ee_ix (ee_var (pv 0)) (ee_var (pv 2)) (by intro _ _; rfl)) (ea_cons (ee_ix (ee_var (pv 0)) (ee_var (pv 1)) (by intro _ _; rfl)) ea_nil))) (eg_tup rfl (egs_cons (eg_item (ee_var (pv 3)) (ee_var (pv 1))) (egs_cons (eg_item (ee_var (pv 3)) (ee_var (pv 2))) egs_nil)))) (eb_one (es_ret (ee_tuple rfl F.tuple_ boot_tuple (ea_cons (ee_var (pv 3)) ea_nil))))))
def N_done_by : List Str := ["row", "way", "pair"]
theorem sc_done_by : FnScope N_done_by ["row", "way", "pair"] (defScope (top 37)) := ⟨rfl, rfl, rfl, by decide +kernel, rfl, by decide +kernel, by decide +kernel⟩
theorem ok_done_by (F : Fc K mg) {fd : FuncData} (f : FunD K d_done_by.name d_done_by.qual d_done_by.params d_done_by.body d_done_by.scope (d_done_by.dvs K) (d_done_by.kws K) (He.fAd K ("done_by", none)) fd) (hm : mg "done_by" = some (.ref (He.fAd K ("done_by", none)))) {fd_shifted : FuncData} (G_shifted : FnB K mg base "shifted" d_shifted 1 ["row", "one", "other"] m_shifted fd_shifted) {fd_put_in_each : FuncData} (G_put_in_each : FnB K mg base "put_in_each" d_put_in_each 1 ["row", "one", "other"] m_put_in_each fd_put_in_each) : FnB K mg base "done_by" d_done_by 2 ["row", "way", "pair"] m_done_by fd := by
  refine ⟨FunD.okG f sc_done_by (fun cdv A outer s H E hr hgd => ?_), f, hm⟩
  have hu : (A.deeper (envOfC d_done_by.qual d_done_by.scope s.heap.objs.size (He.fAd K ("done_by", none)) cdv)).units + 1 < cLine := by have := hr.units; omega
  exact (eb_cons (es_if (et_in (ee_var (pv 1)) (ee_gtup rfl F.c_TURNS.1 F.c_TURNS.2)) (eb_one (es_ret ee_bad)) eb_nil) (eb_cons (es_if (et_eq hr.units (ee_var (pv 1)) (ee_gstr rfl F.c_MOVE)) (eb_one (es_ret (ee_fn G_shifted (bind_shifted_pos G_shifted.f) ⟨rfl, rfl, rfl, rfl, rfl⟩ hr (by decide) hgd (takes_of rfl rfl rfl rfl) rfl (ea_cons (ee_var (pv 0)) (ea_cons (ee_ix (ee_var (pv 2)) ee_int (by intro _ _; rfl)) (ea_cons (ee_ix (ee_var (pv 2)) ee_int (by intro _ _; rfl)) ea_nil)))))) eb_nil) (eb_cons (es_if (et_eq hr.units (ee_var (pv 1)) (ee_gstr rfl F.c_FRONT)) (eb_one (es_ret (ee_fn G_shifted (bind_shifted_pos G_shifted.f) ⟨rfl, rfl, rfl, rfl, rfl⟩ hr (by decide) hgd (takes_of rfl rfl rfl rfl) rfl (ea_cons (ee_var (pv 0)) (ea_cons (ee_ix (ee_var (pv 2)) ee_int (by intro _ _; rfl)) (ea_cons ee_int ea_nil)))))) eb_nil) (eb_one (es_ret (ee_fn G_put_in_each (bind_put_in_each_pos G_put_in_each.f) ⟨rfl, rfl, rfl, rfl, rfl⟩ hr (by decide) hgd (takes_of rfl rfl rfl rfl) rfl (ea_cons (ee_var (pv 0)) (ea_cons (ee_ix (ee_var (pv 2)) ee_int (by intro _ _; rfl)) (ea_cons (ee_ix (ee_var (pv 2)) ee_int (by intro _ _; rfl)) ea_nil)))))))))
def N_far_from : List Str := ["row", "way", "known", "line", "at", "pair", "here", "other"]
theorem sc_far_from : FnScope N_far_from ["row", "way"] (defScope (top 38)) := ⟨rfl, rfl, rfl, by decide +kernel, rfl, by decide +kernel, by decide +kernel⟩
theorem ok_far_from (F : Fc K mg) {fd : FuncData} (f : FunD K d_far_from.name d_far_from.qual d_far_from.params d_far_from.body d_far_from.scope (d_far_from.dvs K) (d_far_from.kws K) (He.fAd K ("far_from", none)) fd) (hm : mg "far_from" = some (.ref (He.fAd K ("far_from", none)))) {fd_pairs_of : FuncData} (G_pairs_of : FnB K mg base "pairs_of" d_pairs_of 1 ["row", "way"] m_pairs_of fd_pairs_of) {fd_done_by : FuncData} (G_done_by : FnB K mg base "done_by" d_done_by 2 ["row", "way", "pair"] m_done_by fd_done_by) : FnB K mg base "far_from" d_far_from 3 ["row", "way"] m_far_from fd := by
  refine ⟨FunD.okG f sc_far_from (fun cdv A outer s H E hr hgd => ?_), f, hm⟩
  have hu : (A.deeper (envOfC d_far_from.qual d_far_from.scope s.heap.objs.size (He.fAd K ("far_from", none)) cdv)).units + 1 < cLine := by have := hr.units; omega
  exact (eb_cons (ps_par3_ev (i := 2) (j := 3) (l := 4) rfl sc_far_from.nd rfl rfl rfl (by decide) (by decide) (by decide) rfl rfl rfl (els_cons (el_o (ef_done ⟨rfl, rfl⟩ hu (ee_var (pv 0)) ee_int)) (els_cons (el_o (ef_lst (ea_cons (ee_var (pv 0)) ea_nil))) (els_cons (el_v ee_int) els_nil))) rfl) (eb_cons (es_while 1000 (passes_of rfl) (et_lt (ee_var (pv 4)) (ee_len rfl F.len_ (ea_cons (ee_var (pv 3)) ea_nil))) (eb_cons (ps_par_ev (i := 6) (j := 4) rfl sc_far_from.nd rfl rfl (by decide) rfl rfl (els_cons (el_v (ee_ix (ee_var (pv 3)) (ee_var (pv 4)) (by intro _ _; rfl))) (els_cons (el_v (ee_add (ee_var (pv 4)) ee_int)) els_nil)) rfl) (eb_one (es_for (passes_of rfl) rfl (ei_seq (ee_fn G_pairs_of (bind_pairs_of_pos G_pairs_of.f) ⟨rfl, rfl, rfl, rfl, rfl⟩ hr (by decide) hgd (takes_of rfl rfl rfl rfl) rfl (ea_cons (ee_var (pv 6)) (ea_cons (ee_var (pv 1)) ea_nil)))) (eg_name sc_far_from.nd rfl (Or.inl rfl)) (eb_cons (es_set (i := 7) sc_far_from.nd rfl (Or.inl rfl) (ee_fn G_done_by (bind_done_by_pos G_done_by.f) ⟨rfl, rfl, rfl, rfl, rfl⟩ hr (by decide) hgd (takes_of rfl rfl rfl rfl) rfl (ea_cons (ee_var (pv 6)) (ea_cons (ee_var (pv 1)) (ea_cons (ee_var (pv 5)) ea_nil))))) (eb_one (es_if (et_dnotin ⟨rfl, rfl⟩ hu (ee_var (pv 7)) (ee_var (pv 2))) (eb_cons (es_dput ⟨rfl, rfl⟩ hu (ee_var (pv 2)) (ee_var (pv 7)) (ee_add (ee_dget ⟨rfl, rfl⟩ hu (ee_var (pv 2)) (ee_var (pv 6))) ee_int)) (eb_one (es_do (ee_append (ee_var (pv 3)) (ea_cons (ee_var (pv 7)) ea_nil))))) eb_nil))))))) (eb_one (es_ret (ee_frz (pv 2))))))
def N_sums_by : List Str := ["rows", "way", "found", "row", "other", "far"]
theorem sc_sums_by : FnScope N_sums_by ["rows", "way"] (defScope (top 44)) := ⟨rfl, rfl, rfl, by decide +kernel, rfl, by decide +kernel, by decide +kernel⟩
theorem ok_sums_by (F : Fc K mg) {fd : FuncData} (f : FunD K d_sums_by.name d_sums_by.qual d_sums_by.params d_sums_by.body d_sums_by.scope (d_sums_by.dvs K) (d_sums_by.kws K) (He.fAd K ("sums_by", none)) fd) (hm : mg "sums_by" = some (.ref (He.fAd K ("sums_by", none)))) {fd_far_from : FuncData} (G_far_from : FnB K mg base "far_from" d_far_from 3 ["row", "way"] m_far_from fd_far_from) : FnB K mg base "sums_by" d_sums_by 4 ["rows", "way"] m_sums_by fd := by
  refine ⟨FunD.okG f sc_sums_by (fun cdv A outer s H E hr hgd => ?_), f, hm⟩
  have hu : (A.deeper (envOfC d_sums_by.qual d_sums_by.scope s.heap.objs.size (He.fAd K ("sums_by", none)) cdv)).units + 1 < cLine := by have := hr.units; omega
  exact (eb_cons (es_own (i := 2) sc_sums_by.nd rfl (Or.inl rfl) ef_dnew) (eb_cons (es_for (passes_of rfl) rfl (ei_seq (ee_var (pv 0))) (eg_name sc_sums_by.nd rfl (Or.inl rfl)) (eb_one (es_for (passes_of rfl) rfl (ei_items (ee_fn G_far_from (bind_far_from_pos G_far_from.f) ⟨rfl, rfl, rfl, rfl, rfl⟩ hr (by decide) hgd (takes_of rfl rfl rfl rfl) rfl (ea_cons (ee_var (pv 3)) (ea_cons (ee_var (pv 1)) ea_nil)))) (eg_tup rfl (egs_cons (eg_name sc_sums_by.nd rfl (Or.inl rfl)) (egs_cons (eg_name sc_sums_by.nd rfl (Or.inl rfl)) egs_nil))) (eb_one (es_dput ⟨rfl, rfl⟩ hu (ee_var (pv 2)) (ee_var (pv 4)) (ee_add (ee_dget2 ⟨rfl, rfl⟩ hu (ee_var (pv 2)) (ee_var (pv 4)) ee_int) (ee_var (pv 5)))))))) (eb_one (es_ret (ee_frz (pv 2))))))
def N_medians_by : List Str := ["rows", "way", "told", "least", "other", "own"]
theorem sc_medians_by : FnScope N_medians_by ["rows", "way"] (defScope (top 45)) := ⟨rfl, rfl, rfl, by decide +kernel, rfl, by decide +kernel, by decide +kernel⟩
theorem ok_medians_by (F : Fc K mg) {fd : FuncData} (f : FunD K d_medians_by.name d_medians_by.qual d_medians_by.params d_medians_by.body d_medians_by.scope (d_medians_by.dvs K) (d_medians_by.kws K) (He.fAd K ("medians_by", none)) fd) (hm : mg "medians_by" = some (.ref (He.fAd K ("medians_by", none)))) {fd_sums_by : FuncData} (G_sums_by : FnB K mg base "sums_by" d_sums_by 4 ["rows", "way"] m_sums_by fd_sums_by) : FnB K mg base "medians_by" d_medians_by 5 ["rows", "way"] m_medians_by fd := by
  refine ⟨FunD.okG f sc_medians_by (fun cdv A outer s H E hr hgd => ?_), f, hm⟩
  have hu : (A.deeper (envOfC d_medians_by.qual d_medians_by.scope s.heap.objs.size (He.fAd K ("medians_by", none)) cdv)).units + 1 < cLine := by have := hr.units; omega
  exact (eb_cons (es_set (i := 2) sc_medians_by.nd rfl (Or.inl rfl) (ee_fn G_sums_by (bind_sums_by_pos G_sums_by.f) ⟨rfl, rfl, rfl, rfl, rfl⟩ hr (by decide) hgd (takes_of rfl rfl rfl rfl) rfl (ea_cons (ee_var (pv 0)) (ea_cons (ee_var (pv 1)) ea_nil)))) (eb_cons (es_set (i := 3) sc_medians_by.nd rfl (Or.inr rfl) (ee_min rfl rfl F.min_ (ea_cons (ee_val (ef_lc (own := [("other", 4), ("own", 5)]) rfl sc_medians_by.nd (ei_items (ee_var (pv 2))) (blkOk_by (N := N_medians_by) (sc := defScope (top 45)) (by decide +kernel)) (fun s H C cl fp => (ew_tup rfl (ews_cons (ew_name sc_medians_by.nd rfl (Or.inl rfl) (by decide)) (ews_cons (ew_name sc_medians_by.nd rfl (Or.inl rfl) (by decide)) ews_nil)))) (fun s H C cl fp => ets_nil) (fun s H C cl fp => (ee_var (pv 5))))) ea_nil))) (eb_one (es_ret (ee_tup (ea_cons (ee_var (pv 3)) (ea_cons (ee_tuple rfl F.tuple_ boot_tuple (ea_cons (ee_val (ef_sorted hr.units rfl F.sorted_ boot_sorted (ea_cons (ee_val (ef_lc (own := [("other", 4), ("own", 5)]) rfl sc_medians_by.nd (ei_items (ee_var (pv 2))) (blkOk_by (N := N_medians_by) (sc := defScope (top 45)) (by decide +kernel)) (fun s H C cl fp => (ew_tup rfl (ews_cons (ew_name sc_medians_by.nd rfl (Or.inl rfl) (by decide)) (ews_cons (ew_name sc_medians_by.nd rfl (Or.inl rfl) (by decide)) ews_nil)))) (fun s H C cl fp => (ets_one (et_eq hr.units (ee_var (pv 5)) (ee_var (pv 3))))) (fun s H C cl fp => (ee_var (pv 4))))) ea_nil))) ea_nil)) ea_nil)))))))
def N_medians : List Str := ["kinds", "rows", "way"]
theorem sc_medians : FnScope N_medians ["kinds", "rows", "way"] (defScope (top 49)) := ⟨rfl, rfl, rfl, by decide +kernel, rfl, by decide +kernel, by decide +kernel⟩
theorem ok_medians (F : Fc K mg) {fd : FuncData} (f : FunD K d_medians.name d_medians.qual d_medians.params d_medians.body d_medians.scope (d_medians.dvs K) (d_medians.kws K) (He.fAd K ("medians", none)) fd) (hm : mg "medians" = some (.ref (He.fAd K ("medians", none)))) {fd_check_rows : FuncData} (G_check_rows : FnB K mg base "check_rows" d_check_rows 6 ["kinds", "rows", "way"] m_check_rows fd_check_rows) {fd_medians_by : FuncData} (G_medians_by : FnB K mg base "medians_by" d_medians_by 5 ["rows", "way"] m_medians_by fd_medians_by) : FnB K mg base "medians" d_medians 7 ["kinds", "rows", "way"] m_medians fd := by
  refine ⟨FunD.okG f sc_medians (fun cdv A outer s H E hr hgd => ?_), f, hm⟩
  have hu : (A.deeper (envOfC d_medians.qual d_medians.scope s.heap.objs.size (He.fAd K ("medians", none)) cdv)).units + 1 < cLine := by have := hr.units; omega
  exact (eb_cons (es_do (ee_fn G_check_rows (bind_check_rows_pos G_check_rows.f) ⟨rfl, rfl, rfl, rfl, rfl⟩ hr (by decide) hgd (takes_of rfl rfl rfl rfl) rfl (ea_cons (ee_var (pv 0)) (ea_cons (ee_var (pv 1)) (ea_cons (ee_var (pv 2)) ea_nil))))) (eb_one (es_ret (ee_fn G_medians_by (bind_medians_by_pos G_medians_by.f) ⟨rfl, rfl, rfl, rfl, rfl⟩ hr (by decide) hgd (takes_of rfl rfl rfl rfl) rfl (ea_cons (ee_var (pv 1)) (ea_cons (ee_var (pv 2)) ea_nil))))))
def N__law_pair_far : List Str := ["rows", "way", "found", "i", "off", "j"]
theorem sc__law_pair_far : FnScope N__law_pair_far ["rows", "way"] (defScope (top 64)) := ⟨rfl, rfl, rfl, by decide +kernel, rfl, by decide +kernel, by decide +kernel⟩
theorem ok__law_pair_far (F : Fc K mg) {fd : FuncData} (f : FunD K d__law_pair_far.name d__law_pair_far.qual d__law_pair_far.params d__law_pair_far.body d__law_pair_far.scope (d__law_pair_far.dvs K) (d__law_pair_far.kws K) (He.fAd K ("_law_pair_far", none)) fd) (hm : mg "_law_pair_far" = some (.ref (He.fAd K ("_law_pair_far", none)))) {fd__law_off : FuncData} (G__law_off : FnB K mg base "_law_off" d__law_off 2 ["row", "way"] m__law_off fd__law_off) : FnB K mg base "_law_pair_far" d__law_pair_far 3 ["rows", "way"] m__law_pair_far fd := by
  refine ⟨FunD.okG f sc__law_pair_far (fun cdv A outer s H E hr hgd => ?_), f, hm⟩
  have hu : (A.deeper (envOfC d__law_pair_far.qual d__law_pair_far.scope s.heap.objs.size (He.fAd K ("_law_pair_far", none)) cdv)).units + 1 < cLine := by have := hr.units; omega
  exact (eb_cons (es_set (i := 2) sc__law_pair_far.nd rfl (Or.inl rfl) (ee_val (ef_lst ea_nil))) (eb_cons (es_for (passes_of rfl) rfl (ei_rng1 rfl F.range_ (ea_cons (ee_len rfl F.len_ (ea_cons (ee_var (pv 0)) ea_nil)) ea_nil)) (eg_name sc__law_pair_far.nd rfl (Or.inr rfl)) (eb_cons (es_set (i := 4) sc__law_pair_far.nd rfl (Or.inr rfl) (ee_fn G__law_off (bind__law_off_pos G__law_off.f) ⟨rfl, rfl, rfl, rfl, rfl⟩ hr (by decide) hgd (takes_of rfl rfl rfl rfl) rfl (ea_cons (ee_ix (ee_var (pv 0)) (ee_var (pv 3)) (by intro _ _; rfl)) (ea_cons (ee_var (pv 1)) ea_nil)))) (eb_one (es_set (i := 2) sc__law_pair_far.nd rfl (Or.inl rfl) (ee_add (ee_var (pv 2)) (ee_val (ef_lc (own := [("j", 5)]) rfl sc__law_pair_far.nd (ei_rng1 rfl F.range_ (ea_cons (ee_len rfl F.len_ (ea_cons (ee_var (pv 0)) ea_nil)) ea_nil)) (blkOk_by (N := N__law_pair_far) (sc := defScope (top 64)) (by decide +kernel)) (fun s H C cl fp => (ew_name sc__law_pair_far.nd rfl (Or.inl rfl) (by decide))) (fun s H C cl fp => (ets_one (et_ne hr.units (ee_var (pv 5)) (ee_var (pv 3))))) (fun s H C cl fp => (ee_tup (ea_cons (ee_dget ⟨rfl, rfl⟩ hu (ee_var (pv 4)) (ee_ix (ee_var (pv 0)) (ee_var (pv 5)) (by intro _ _; rfl))) (ea_cons (ee_tup (ea_cons (ee_var (pv 3)) (ea_cons (ee_var (pv 5)) ea_nil))) ea_nil))))))))))) (eb_one (es_ret (ee_var (pv 2))))))
def N__law_lowest : List Str := ["top", "low", "one", "two"]
theorem sc__law_lowest : FnScope N__law_lowest ["top", "low"] (defScope (top 62)) := ⟨rfl, rfl, rfl, by decide +kernel, rfl, by decide +kernel, by decide +kernel⟩
theorem ok__law_lowest (F : Fc K mg) {fd : FuncData} (f : FunD K d__law_lowest.name d__law_lowest.qual d__law_lowest.params d__law_lowest.body d__law_lowest.scope (d__law_lowest.dvs K) (d__law_lowest.kws K) (He.fAd K ("_law_lowest", none)) fd) (hm : mg "_law_lowest" = some (.ref (He.fAd K ("_law_lowest", none)))) : FnB K mg base "_law_lowest" d__law_lowest 1 ["top", "low"] m__law_lowest fd := by
  refine ⟨FunD.okG f sc__law_lowest (fun cdv A outer s H E hr hgd => ?_), f, hm⟩
  have hu : (A.deeper (envOfC d__law_lowest.qual d__law_lowest.scope s.heap.objs.size (He.fAd K ("_law_lowest", none)) cdv)).units + 1 < cLine := by have := hr.units; omega
  exact (eb_cons (ps_par_ev (i := 2) (j := 3) rfl sc__law_lowest.nd rfl rfl (by decide) rfl rfl (els_cons (el_v (ee_var (pv 0))) (els_cons (el_v (ee_var (pv 1))) els_nil)) rfl) (eb_cons (es_while 1000 (passes_of rfl) (et_gt (ee_var (pv 3)) ee_int) (eb_one (ps_par_ev (i := 2) (j := 3) rfl sc__law_lowest.nd rfl rfl (by decide) rfl rfl (els_cons (el_v (ee_var (pv 3))) (els_cons (el_v (ee_mod (ee_intO rfl F.int_ (ea_cons (ee_var (pv 2)) ea_nil)) (ee_var (pv 3)))) els_nil)) rfl))) (eb_one (es_ret (ee_tup (ea_cons (ee_div (ee_var (pv 0)) (ee_var (pv 2))) (ea_cons (ee_div (ee_var (pv 1)) (ee_var (pv 2))) ea_nil)))))))
def N_lowest : List Str := ["over", "under", "common"]
theorem sc_lowest : FnScope N_lowest ["over", "under"] (defScope (top 12)) := ⟨rfl, rfl, rfl, by decide +kernel, rfl, by decide +kernel, by decide +kernel⟩
theorem ok_lowest (F : Fc K mg) {fd : FuncData} (f : FunD K d_lowest.name d_lowest.qual d_lowest.params d_lowest.body d_lowest.scope (d_lowest.dvs K) (d_lowest.kws K) (He.fAd K ("lowest", none)) fd) (hm : mg "lowest" = some (.ref (He.fAd K ("lowest", none)))) : FnB K mg base "lowest" d_lowest 1 ["over", "under"] m_lowest fd := by
  refine ⟨FunD.okG f sc_lowest (fun cdv A outer s H E hr hgd => ?_), f, hm⟩
  have hu : (A.deeper (envOfC d_lowest.qual d_lowest.scope s.heap.objs.size (He.fAd K ("lowest", none)) cdv)).units + 1 < cLine := by have := hr.units; omega
  exact (eb_cons (es_set (i := 2) sc_lowest.nd rfl (Or.inl rfl) (ee_if (et_gt (ee_var (pv 1)) ee_int) (ee_gcd rfl F.gcd_ (ea_cons (ee_var (pv 0)) (ea_cons (ee_var (pv 1)) ea_nil))) ee_bad)) (eb_one (es_ret (ee_tup (ea_cons (ee_div (ee_var (pv 0)) (ee_var (pv 2))) (ea_cons (ee_div (ee_var (pv 1)) (ee_var (pv 2))) ea_nil))))))
def N_mean_by : List Str := ["rows", "way", "told", "at", "one", "own", "other"]
theorem sc_mean_by : FnScope N_mean_by ["rows", "way"] (defScope (top 46)) := ⟨rfl, rfl, rfl, by decide +kernel, rfl, by decide +kernel, by decide +kernel⟩
theorem ok_mean_by (F : Fc K mg) {fd : FuncData} (f : FunD K d_mean_by.name d_mean_by.qual d_mean_by.params d_mean_by.body d_mean_by.scope (d_mean_by.dvs K) (d_mean_by.kws K) (He.fAd K ("mean_by", none)) fd) (hm : mg "mean_by" = some (.ref (He.fAd K ("mean_by", none)))) {fd_far_from : FuncData} (G_far_from : FnB K mg base "far_from" d_far_from 3 ["row", "way"] m_far_from fd_far_from) {fd_lowest : FuncData} (G_lowest : FnB K mg base "lowest" d_lowest 1 ["over", "under"] m_lowest fd_lowest) : FnB K mg base "mean_by" d_mean_by 4 ["rows", "way"] m_mean_by fd := by
  refine ⟨FunD.okG f sc_mean_by (fun cdv A outer s H E hr hgd => ?_), f, hm⟩
  have hu : (A.deeper (envOfC d_mean_by.qual d_mean_by.scope s.heap.objs.size (He.fAd K ("mean_by", none)) cdv)).units + 1 < cLine := by have := hr.units; omega
  exact (eb_cons (es_lc2v (i := 2) (own := [("at", 3), ("one", 4), ("own", 5), ("other", 6)]) (vs1 := [5, 6]) rfl sc_mean_by.nd rfl rfl (sw_true rfl rfl rfl rfl) (ei_enumT rfl F.enumerate_ (ea_cons (ee_var (pv 0)) ea_nil)) (blkOk_by (N := N_mean_by) (sc := defScope (top 46)) (by decide +kernel)) (by decide) (fun s H C cl fp => (ew_tup rfl (ews_cons (ew_name sc_mean_by.nd rfl (Or.inl rfl) (by decide)) (ews_cons (ew_name sc_mean_by.nd rfl (Or.inl rfl) (by decide)) ews_nil)))) (fun s H C cl fp => ets_nil) (fun s H C cl fp => (ei_enumT rfl F.enumerate_ (ea_cons (ee_var (pv 0)) ea_nil))) (fun s H C cl fp => (ew_tup rfl (ews_cons (ew_name sc_mean_by.nd rfl (Or.inl rfl) (by decide)) (ews_cons (ew_name sc_mean_by.nd rfl (Or.inl rfl) (by decide)) ews_nil)))) (fun s H C cl fp => (ets_one (et_ne hr.units (ee_var (pv 3)) (ee_var (pv 5))))) (fun s H C cl fp => (ee_dget ⟨rfl, rfl⟩ hu (ee_fn G_far_from (bind_far_from_pos G_far_from.f) ⟨rfl, rfl, rfl, rfl, rfl⟩ hr (by decide) hgd noTakes rfl (ea_cons (ee_var (pv 4)) (ea_cons (ee_var (pv 1)) ea_nil))) (ee_var (pv 6))))) (eb_one (es_ret (ee_if (et_ne hr.units (ee_var (pv 2)) (ee_val (ef_lst ea_nil))) (ee_fn G_lowest (bind_lowest_pos G_lowest.f) ⟨rfl, rfl, rfl, rfl, rfl⟩ hr (by decide) hgd (takes_of rfl rfl rfl rfl) rfl (ea_cons (ee_sum rfl rfl F.sum_ (ea_cons (ee_var (pv 2)) ea_nil)) (ea_cons (ee_len rfl F.len_ (ea_cons (ee_var (pv 2)) ea_nil)) ea_nil))) ee_non))))
def N_mean_far : List Str := ["kinds", "rows", "way"]
theorem sc_mean_far : FnScope N_mean_far ["kinds", "rows", "way"] (defScope (top 50)) := ⟨rfl, rfl, rfl, by decide +kernel, rfl, by decide +kernel, by decide +kernel⟩
theorem ok_mean_far (F : Fc K mg) {fd : FuncData} (f : FunD K d_mean_far.name d_mean_far.qual d_mean_far.params d_mean_far.body d_mean_far.scope (d_mean_far.dvs K) (d_mean_far.kws K) (He.fAd K ("mean_far", none)) fd) (hm : mg "mean_far" = some (.ref (He.fAd K ("mean_far", none)))) {fd_check_rows : FuncData} (G_check_rows : FnB K mg base "check_rows" d_check_rows 6 ["kinds", "rows", "way"] m_check_rows fd_check_rows) {fd_mean_by : FuncData} (G_mean_by : FnB K mg base "mean_by" d_mean_by 4 ["rows", "way"] m_mean_by fd_mean_by) : FnB K mg base "mean_far" d_mean_far 7 ["kinds", "rows", "way"] m_mean_far fd := by
  refine ⟨FunD.okG f sc_mean_far (fun cdv A outer s H E hr hgd => ?_), f, hm⟩
  have hu : (A.deeper (envOfC d_mean_far.qual d_mean_far.scope s.heap.objs.size (He.fAd K ("mean_far", none)) cdv)).units + 1 < cLine := by have := hr.units; omega
  exact (eb_cons (es_do (ee_fn G_check_rows (bind_check_rows_pos G_check_rows.f) ⟨rfl, rfl, rfl, rfl, rfl⟩ hr (by decide) hgd (takes_of rfl rfl rfl rfl) rfl (ea_cons (ee_var (pv 0)) (ea_cons (ee_var (pv 1)) (ea_cons (ee_var (pv 2)) ea_nil))))) (eb_one (es_ret (ee_fn G_mean_by (bind_mean_by_pos G_mean_by.f) ⟨rfl, rfl, rfl, rfl, rfl⟩ hr (by decide) hgd (takes_of rfl rfl rfl rfl) rfl (ea_cons (ee_var (pv 1)) (ea_cons (ee_var (pv 2)) ea_nil))))))
def N_widest_by : List Str := ["rows", "way", "best", "at", "one", "known", "own", "other"]
theorem sc_widest_by : FnScope N_widest_by ["rows", "way"] (defScope (top 47)) := ⟨rfl, rfl, rfl, by decide +kernel, rfl, by decide +kernel, by decide +kernel⟩
theorem ok_widest_by (F : Fc K mg) {fd : FuncData} (f : FunD K d_widest_by.name d_widest_by.qual d_widest_by.params d_widest_by.body d_widest_by.scope (d_widest_by.dvs K) (d_widest_by.kws K) (He.fAd K ("widest_by", none)) fd) (hm : mg "widest_by" = some (.ref (He.fAd K ("widest_by", none)))) {fd_far_from : FuncData} (G_far_from : FnB K mg base "far_from" d_far_from 3 ["row", "way"] m_far_from fd_far_from) : FnB K mg base "widest_by" d_widest_by 4 ["rows", "way"] m_widest_by fd := by
  refine ⟨FunD.okG f sc_widest_by (fun cdv A outer s H E hr hgd => ?_), f, hm⟩
  have hu : (A.deeper (envOfC d_widest_by.qual d_widest_by.scope s.heap.objs.size (He.fAd K ("widest_by", none)) cdv)).units + 1 < cLine := by have := hr.units; omega
  exact (eb_cons (es_set (i := 2) sc_widest_by.nd rfl (Or.inl rfl) (ee_tup (ea_cons ee_int (ea_cons ee_non ea_nil)))) (eb_cons (es_for (passes_of rfl) rfl (ei_enumT rfl F.enumerate_ (ea_cons (ee_var (pv 0)) ea_nil)) (eg_tup rfl (egs_cons (eg_name sc_widest_by.nd rfl (Or.inl rfl)) (egs_cons (eg_name sc_widest_by.nd rfl (Or.inl rfl)) egs_nil))) (eb_cons (es_set (i := 5) sc_widest_by.nd rfl (Or.inl rfl) (ee_fn G_far_from (bind_far_from_pos G_far_from.f) ⟨rfl, rfl, rfl, rfl, rfl⟩ hr (by decide) hgd (takes_of rfl rfl rfl rfl) rfl (ea_cons (ee_var (pv 4)) (ea_cons (ee_var (pv 1)) ea_nil)))) (eb_one (es_for (passes_of rfl) rfl (ei_enumT rfl F.enumerate_ (ea_cons (ee_var (pv 0)) ea_nil)) (eg_tup rfl (egs_cons (eg_name sc_widest_by.nd rfl (Or.inl rfl)) (egs_cons (eg_name sc_widest_by.nd rfl (Or.inl rfl)) egs_nil))) (eb_one (es_if (EW.et (ew_and (et_ne hr.units (ee_var (pv 3)) (ee_var (pv 6))) (ew_and1 (et_gt (ee_dget ⟨rfl, rfl⟩ hu (ee_var (pv 5)) (ee_var (pv 7))) (ee_ix (ee_var (pv 2)) ee_int (by intro _ _; rfl)))))) (eb_one (es_set (i := 2) sc_widest_by.nd rfl (Or.inl rfl) (ee_tup (ea_cons (ee_dget ⟨rfl, rfl⟩ hu (ee_var (pv 5)) (ee_var (pv 7))) (ea_cons (ee_tup (ea_cons (ee_var (pv 3)) (ea_cons (ee_var (pv 6)) ea_nil))) ea_nil))))) eb_nil)))))) (eb_one (es_ret (ee_var (pv 2))))))
def N_widest_pair : List Str := ["kinds", "rows", "way"]
theorem sc_widest_pair : FnScope N_widest_pair ["kinds", "rows", "way"] (defScope (top 51)) := ⟨rfl, rfl, rfl, by decide +kernel, rfl, by decide +kernel, by decide +kernel⟩
theorem ok_widest_pair (F : Fc K mg) {fd : FuncData} (f : FunD K d_widest_pair.name d_widest_pair.qual d_widest_pair.params d_widest_pair.body d_widest_pair.scope (d_widest_pair.dvs K) (d_widest_pair.kws K) (He.fAd K ("widest_pair", none)) fd) (hm : mg "widest_pair" = some (.ref (He.fAd K ("widest_pair", none)))) {fd_check_rows : FuncData} (G_check_rows : FnB K mg base "check_rows" d_check_rows 6 ["kinds", "rows", "way"] m_check_rows fd_check_rows) {fd_widest_by : FuncData} (G_widest_by : FnB K mg base "widest_by" d_widest_by 4 ["rows", "way"] m_widest_by fd_widest_by) : FnB K mg base "widest_pair" d_widest_pair 7 ["kinds", "rows", "way"] m_widest_pair fd := by
  refine ⟨FunD.okG f sc_widest_pair (fun cdv A outer s H E hr hgd => ?_), f, hm⟩
  have hu : (A.deeper (envOfC d_widest_pair.qual d_widest_pair.scope s.heap.objs.size (He.fAd K ("widest_pair", none)) cdv)).units + 1 < cLine := by have := hr.units; omega
  exact (eb_cons (es_do (ee_fn G_check_rows (bind_check_rows_pos G_check_rows.f) ⟨rfl, rfl, rfl, rfl, rfl⟩ hr (by decide) hgd (takes_of rfl rfl rfl rfl) rfl (ea_cons (ee_var (pv 0)) (ea_cons (ee_var (pv 1)) (ea_cons (ee_var (pv 2)) ea_nil))))) (eb_one (es_ret (ee_fn G_widest_by (bind_widest_by_pos G_widest_by.f) ⟨rfl, rfl, rfl, rfl, rfl⟩ hr (by decide) hgd (takes_of rfl rfl rfl rfl) rfl (ea_cons (ee_var (pv 1)) (ea_cons (ee_var (pv 2)) ea_nil))))))
def N__law_right : List Str := ["bag", "turn", "due", "pairs", "whole", "part", "most", "wide", "kinds", "row", "way", "rows", "far", "pair"]
theorem sc__law_right : FnScope N__law_right ["bag"] (defScope (top 65)) := ⟨rfl, rfl, rfl, by decide +kernel, rfl, by decide +kernel, by decide +kernel⟩
theorem ok__law_right (F : Fc K mg) {fd : FuncData} (f : FunD K d__law_right.name d__law_right.qual d__law_right.params d__law_right.body d__law_right.scope (d__law_right.dvs K) (d__law_right.kws K) (He.fAd K ("_law_right", none)) fd) (hm : mg "_law_right" = some (.ref (He.fAd K ("_law_right", none)))) {fd__law_row : FuncData} (G__law_row : FnB K mg base "_law_row" d__law_row 2 ["bag", "most"] m__law_row fd__law_row) {fd__law_way : FuncData} (G__law_way : FnB K mg base "_law_way" d__law_way 3 ["bag"] m__law_way fd__law_way) {fd__law_take : FuncData} (G__law_take : FnB K mg base "_law_take" d__law_take 1 ["bag", "top"] m__law_take fd__law_take) {fd__law_mixed : FuncData} (G__law_mixed : FnB K mg base "_law_mixed" d__law_mixed 2 ["bag", "row"] m__law_mixed fd__law_mixed) {fd__law_medians : FuncData} (G__law_medians : FnB K mg base "_law_medians" d__law_medians 3 ["rows", "way"] m__law_medians fd__law_medians) {fd_medians : FuncData} (G_medians : FnB K mg base "medians" d_medians 7 ["kinds", "rows", "way"] m_medians fd_medians) {fd__law_pair_far : FuncData} (G__law_pair_far : FnB K mg base "_law_pair_far" d__law_pair_far 3 ["rows", "way"] m__law_pair_far fd__law_pair_far) {fd__law_lowest : FuncData} (G__law_lowest : FnB K mg base "_law_lowest" d__law_lowest 1 ["top", "low"] m__law_lowest fd__law_lowest) {fd_mean_far : FuncData} (G_mean_far : FnB K mg base "mean_far" d_mean_far 7 ["kinds", "rows", "way"] m_mean_far fd_mean_far) {fd_widest_pair : FuncData} (G_widest_pair : FnB K mg base "widest_pair" d_widest_pair 7 ["kinds", "rows", "way"] m_widest_pair fd_widest_pair) : FnB K mg base "_law_right" d__law_right 8 ["bag"] m__law_right fd := by
  refine ⟨FunD.okG f sc__law_right (fun cdv A outer s H E hr hgd => ?_), f, hm⟩
  have hu : (A.deeper (envOfC d__law_right.qual d__law_right.scope s.heap.objs.size (He.fAd K ("_law_right", none)) cdv)).units + 1 < cLine := by have := hr.units; omega
  exact (eb_cons (es_asg (ee_fn G__law_row (bind__law_row_pos G__law_row.f) ⟨rfl, rfl, rfl, rfl, rfl⟩ hr (by decide) hgd (takes_of rfl rfl rfl rfl) rfl (ea_cons (ee_var (pv 0)) (ea_cons ee_int ea_nil))) (eg_tup rfl (egs_cons (eg_name sc__law_right.nd rfl (Or.inl rfl)) (egs_cons (eg_name sc__law_right.nd rfl (Or.inl rfl)) egs_nil)))) (eb_cons (ps_par_ev (i := 10) (j := 11) rfl sc__law_right.nd rfl rfl (by decide) rfl rfl (els_cons (el_v (ee_fn G__law_way (bind__law_way_pos G__law_way.f) ⟨rfl, rfl, rfl, rfl, rfl⟩ hr (by decide) hgd (takes_of rfl rfl rfl rfl) rfl (ea_cons (ee_var (pv 0)) ea_nil))) (els_cons (el_v (ee_tup (ea_cons (ee_var (pv 9)) ea_nil))) els_nil)) rfl) (eb_cons (es_for (passes_of rfl) rfl (ei_rng1 rfl F.range_ (ea_cons (ee_fn G__law_take (bind__law_take_pos G__law_take.f) ⟨rfl, rfl, rfl, rfl, rfl⟩ hr (by decide) hgd (takes_of rfl rfl rfl rfl) rfl (ea_cons (ee_var (pv 0)) (ea_cons ee_int ea_nil))) ea_nil)) (eg_name sc__law_right.nd rfl (Or.inl rfl)) (eb_one (es_set (i := 11) sc__law_right.nd rfl (Or.inl rfl) (ee_add (ee_var (pv 11)) (ee_tup (ea_cons (ee_if (et_gt (ee_fn G__law_take (bind__law_take_pos G__law_take.f) ⟨rfl, rfl, rfl, rfl, rfl⟩ hr (by decide) hgd (takes_of rfl rfl rfl rfl) rfl (ea_cons (ee_var (pv 0)) (ea_cons ee_int ea_nil))) ee_int) (ee_fn G__law_mixed (bind__law_mixed_pos G__law_mixed.f) ⟨rfl, rfl, rfl, rfl, rfl⟩ hr (by decide) hgd (takes_of rfl rfl rfl rfl) rfl (ea_cons (ee_var (pv 0)) (ea_cons (ee_var (pv 9)) ea_nil))) (ee_var (pv 9))) ea_nil)))))) (eb_cons (es_set (i := 2) sc__law_right.nd rfl (Or.inl rfl) (ee_fn G__law_medians (bind__law_medians_pos G__law_medians.f) ⟨rfl, rfl, rfl, rfl, rfl⟩ hr (by decide) hgd (takes_of rfl rfl rfl rfl) rfl (ea_cons (ee_var (pv 11)) (ea_cons (ee_var (pv 10)) ea_nil)))) (eb_cons (es_if (et_ne hr.units (ee_repr hgd hr.units rfl F.repr_ boot_repr (ea_cons (ee_val (ef_lst (ea_cons (ee_fn G_medians (bind_medians_pos G_medians.f) ⟨rfl, rfl, rfl, rfl, rfl⟩ hr (by decide) hgd (takes_of rfl rfl rfl rfl) rfl (ea_cons (ee_var (pv 8)) (ea_cons (ee_var (pv 11)) (ea_cons (ee_var (pv 10)) ea_nil)))) (ea_cons (ee_fnK0 (ks := ["way", "rows", "kinds"]) G_medians (bind_medians_k_way_rows_kinds G_medians.f) ⟨rfl, rfl, rfl, rfl, rfl⟩ hr (by decide) hgd (takes_of rfl rfl rfl rfl) rfl (ek_cons (ee_var (pv 10)) (ek_cons (ee_var (pv 11)) (ek_cons (ee_var (pv 8)) ek_nil)))) ea_nil)))) ea_nil)) (ee_repr hgd hr.units rfl F.repr_ boot_repr (ea_cons (ee_val (ef_lst (ea_cons (ee_var (pv 2)) (ea_cons (ee_var (pv 2)) ea_nil)))) ea_nil))) (eb_one (es_ret ee_bl)) eb_nil) (eb_cons (es_set (i := 3) sc__law_right.nd rfl (Or.inl rfl) (ee_fn G__law_pair_far (bind__law_pair_far_pos G__law_pair_far.f) ⟨rfl, rfl, rfl, rfl, rfl⟩ hr (by decide) hgd (takes_of rfl rfl rfl rfl) rfl (ea_cons (ee_var (pv 11)) (ea_cons (ee_var (pv 10)) ea_nil)))) (eb_cons (es_set (i := 4) sc__law_right.nd rfl (Or.inl rfl) (ee_sum rfl rfl F.sum_ (ea_cons (ee_val (ef_lc (own := [("far", 12), ("pair", 13)]) rfl sc__law_right.nd (ei_seq (ee_var (pv 3))) (blkOk_by (N := N__law_right) (sc := defScope (top 65)) (by decide +kernel)) (fun s H C cl fp => (ew_tup rfl (ews_cons (ew_name sc__law_right.nd rfl (Or.inl rfl) (by decide)) (ews_cons (ew_name sc__law_right.nd rfl (Or.inl rfl) (by decide)) ews_nil)))) (fun s H C cl fp => ets_nil) (fun s H C cl fp => (ee_var (pv 12))))) ea_nil))) (eb_cons (es_set (i := 5) sc__law_right.nd rfl (Or.inl rfl) ee_non) (eb_cons (es_if (et_ne hr.units (ee_var (pv 3)) (ee_val (ef_lst ea_nil))) (eb_one (es_set (i := 5) sc__law_right.nd rfl (Or.inl rfl) (ee_if (et_gt (ee_var (pv 4)) ee_int) (ee_fn G__law_lowest (bind__law_lowest_pos G__law_lowest.f) ⟨rfl, rfl, rfl, rfl, rfl⟩ hr (by decide) hgd (takes_of rfl rfl rfl rfl) rfl (ea_cons (ee_var (pv 4)) (ea_cons (ee_len rfl F.len_ (ea_cons (ee_var (pv 3)) ea_nil)) ea_nil))) (ee_tup (ea_cons ee_int (ea_cons ee_int ea_nil)))))) eb_nil) (eb_cons (es_if (et_ne hr.units (ee_repr hgd hr.units rfl F.repr_ boot_repr (ea_cons (ee_val (ef_lst (ea_cons (ee_fn G_mean_far (bind_mean_far_pos G_mean_far.f) ⟨rfl, rfl, rfl, rfl, rfl⟩ hr (by decide) hgd (takes_of rfl rfl rfl rfl) rfl (ea_cons (ee_var (pv 8)) (ea_cons (ee_var (pv 11)) (ea_cons (ee_var (pv 10)) ea_nil)))) (ea_cons (ee_fnK0 (ks := ["way", "rows", "kinds"]) G_mean_far (bind_mean_far_k_way_rows_kinds G_mean_far.f) ⟨rfl, rfl, rfl, rfl, rfl⟩ hr (by decide) hgd (takes_of rfl rfl rfl rfl) rfl (ek_cons (ee_var (pv 10)) (ek_cons (ee_var (pv 11)) (ek_cons (ee_var (pv 8)) ek_nil)))) ea_nil)))) ea_nil)) (ee_repr hgd hr.units rfl F.repr_ boot_repr (ea_cons (ee_val (ef_lst (ea_cons (ee_var (pv 5)) (ea_cons (ee_var (pv 5)) ea_nil)))) ea_nil))) (eb_one (es_ret ee_bl)) eb_nil) (eb_cons (es_set (i := 6) sc__law_right.nd rfl (Or.inr rfl) (ee_max rfl rfl F.max_ (ea_cons (ee_add (ee_val (ef_lst (ea_cons ee_int ea_nil))) (ee_val (ef_lc (own := [("far", 12), ("pair", 13)]) rfl sc__law_right.nd (ei_seq (ee_var (pv 3))) (blkOk_by (N := N__law_right) (sc := defScope (top 65)) (by decide +kernel)) (fun s H C cl fp => (ew_tup rfl (ews_cons (ew_name sc__law_right.nd rfl (Or.inl rfl) (by decide)) (ews_cons (ew_name sc__law_right.nd rfl (Or.inl rfl) (by decide)) ews_nil)))) (fun s H C cl fp => ets_nil) (fun s H C cl fp => (ee_var (pv 12)))))) ea_nil))) (eb_cons (es_set (i := 7) sc__law_right.nd rfl (Or.inl rfl) (ee_if (et_eq hr.units (ee_var (pv 6)) ee_int) (ee_tup (ea_cons ee_int (ea_cons ee_non ea_nil))) (ee_tup (ea_cons (ee_var (pv 6)) (ea_cons (ee_ix (ee_val (ef_lc (own := [("far", 12), ("pair", 13)]) rfl sc__law_right.nd (ei_seq (ee_var (pv 3))) (blkOk_by (N := N__law_right) (sc := defScope (top 65)) (by decide +kernel)) (fun s H C cl fp => (ew_tup rfl (ews_cons (ew_name sc__law_right.nd rfl (Or.inl rfl) (by decide)) (ews_cons (ew_name sc__law_right.nd rfl (Or.inl rfl) (by decide)) ews_nil)))) (fun s H C cl fp => (ets_one (et_eq hr.units (ee_var (pv 12)) (ee_var (pv 6))))) (fun s H C cl fp => (ee_var (pv 13))))) ee_int (by intro _ _; rfl)) ea_nil))))) (eb_one (es_ret (ee_eq hr.units (ee_repr hgd hr.units rfl F.repr_ boot_repr (ea_cons (ee_val (ef_lst (ea_cons (ee_fn G_widest_pair (bind_widest_pair_pos G_widest_pair.f) ⟨rfl, rfl, rfl, rfl, rfl⟩ hr (by decide) hgd (takes_of rfl rfl rfl rfl) rfl (ea_cons (ee_var (pv 8)) (ea_cons (ee_var (pv 11)) (ea_cons (ee_var (pv 10)) ea_nil)))) (ea_cons (ee_fnK0 (ks := ["way", "rows", "kinds"]) G_widest_pair (bind_widest_pair_k_way_rows_kinds G_widest_pair.f) ⟨rfl, rfl, rfl, rfl, rfl⟩ hr (by decide) hgd (takes_of rfl rfl rfl rfl) rfl (ek_cons (ee_var (pv 10)) (ek_cons (ee_var (pv 11)) (ek_cons (ee_var (pv 8)) ek_nil)))) ea_nil)))) ea_nil)) (ee_repr hgd hr.units rfl F.repr_ boot_repr (ea_cons (ee_val (ef_lst (ea_cons (ee_var (pv 7)) (ea_cons (ee_var (pv 7)) ea_nil)))) ea_nil)))))))))))))))))
def N_law : List Str := ["script", "lap", "bag", "turn"]
theorem sc_law : FnScope N_law ["script"] (defScope (top 66)) := ⟨rfl, rfl, rfl, by decide +kernel, rfl, by decide +kernel, by decide +kernel⟩
theorem ok_law (F : Fc K mg) {fd : FuncData} (f : FunD K d_law.name d_law.qual d_law.params d_law.body d_law.scope (d_law.dvs K) (d_law.kws K) (He.fAd K ("law", none)) fd) (hm : mg "law" = some (.ref (He.fAd K ("law", none)))) {fd__law_bag : FuncData} (G__law_bag : FnB K mg base "_law_bag" d__law_bag 1 ["script", "lap"] m__law_bag fd__law_bag) {fd__law_right : FuncData} (G__law_right : FnB K mg base "_law_right" d__law_right 8 ["bag"] m__law_right fd__law_right) : FnB K mg base "law" d_law 9 ["script"] m_law fd := by
  refine ⟨FunD.okG f sc_law (fun cdv A outer s H E hr hgd => ?_), f, hm⟩
  have hu : (A.deeper (envOfC d_law.qual d_law.scope s.heap.objs.size (He.fAd K ("law", none)) cdv)).units + 1 < cLine := by have := hr.units; omega
  exact (eb_cons (es_for (passes_of rfl) rfl (ei_rng1 rfl F.range_ (ea_cons (ee_max2 rfl rfl F.max_ (ea_cons ee_int (ea_cons (ee_min2 rfl rfl F.min_ (ea_cons (ee_len rfl F.len_ (ea_cons (ee_var (pv 0)) ea_nil)) (ea_cons ee_int ea_nil))) ea_nil))) ea_nil)) (eg_name sc_law.nd rfl (Or.inl rfl)) (eb_cons (es_set (i := 2) sc_law.nd rfl (Or.inr rfl) (ee_fn G__law_bag (bind__law_bag_pos G__law_bag.f) ⟨rfl, rfl, rfl, rfl, rfl⟩ hr (by decide) hgd (takes_of rfl rfl rfl rfl) rfl (ea_cons (ee_var (pv 0)) (ea_cons (ee_var (pv 1)) ea_nil)))) (eb_one (es_if (et_not (et_val (ee_all rfl rfl F.all_ (ea_cons (ee_val (ef_lc (own := [("turn", 3)]) rfl sc_law.nd (ei_rng1 rfl F.range_ (ea_cons ee_int ea_nil)) (blkOk_by (N := N_law) (sc := defScope (top 66)) (by decide +kernel)) (fun s H C cl fp => (ew_name sc_law.nd rfl (Or.inl rfl) (by decide))) (fun s H C cl fp => ets_nil) (fun s H C cl fp => (ee_fn G__law_right (bind__law_right_pos G__law_right.f) ⟨rfl, rfl, rfl, rfl, rfl⟩ hr (by decide) hgd noTakes rfl (ea_cons (ee_var (pv 2)) ea_nil))))) ea_nil)))) (eb_one (es_ret ee_bl)) eb_nil)))) (eb_one (es_ret ee_bl)))
end
end G

set_option maxRecDepth 100000
set_option maxHeartbeats 0
namespace G
open PySem PySem.Spec PyProof.Rows L2 Ev
def fn : List He.DefD := [d__law_bag, d__law_take, d__law_row, d__law_pull, d__law_way, d__law_mixed, d__law_steps, d__law_off, d__law_all_rows, d__law_medians, d_is_whole, d_is_between, d_is_kinds, d_check_kinds, d_is_row_values, d_is_kind, d_is_row_wants, d_is_goal, d_is_string, d_is_way, d_check_way, d_check_rows, d_pairs_of, d_shifted, d_put_in_each, d_done_by, d_far_from, d_sums_by, d_medians_by, d_medians, d__law_pair_far, d__law_lowest, d_lowest, d_mean_by, d_mean_far, d_widest_by, d_widest_pair, d__law_right, d_law]
def fa : List He.Fa := [.glo "_law_bag", .glo "_law_take", .glo "_law_row", .glo "_law_pull", .glo "_law_way", .glo "_law_mixed", .glo "_law_steps", .glo "_law_off", .glo "_law_all_rows", .glo "_law_medians", .glo "is_whole", .glo "is_between", .glo "is_kinds", .glo "check_kinds", .glo "is_row_values", .glo "is_kind", .glo "is_row_wants", .glo "is_goal", .glo "is_string", .glo "is_way", .glo "check_way", .glo "check_rows", .glo "pairs_of", .glo "shifted", .glo "put_in_each", .glo "done_by", .glo "far_from", .glo "sums_by", .glo "medians_by", .glo "medians", .glo "_law_pair_far", .glo "_law_lowest", .glo "lowest", .glo "mean_by", .glo "mean_far", .glo "widest_by", .glo "widest_pair", .glo "_law_right", .glo "law", .free "abs", .free "all", .free "bool", .free "divmod", .free "enumerate", .free "int", .free "isinstance", .free "len", .free "list", .free "max", .free "min", .free "range", .free "repr", .free "set", .free "sorted", .free "str", .free "sum", .free "tuple", .free "zip", .int "FEWEST_KINDS" (2), .str "FLIP" "flip", .str "FRONT" "front", .int "MOST_KINDS" (4), .int "MOST_PLACES" (7), .int "MOST_ROWS" (6), .str "MOVE" "move", .str "NEAR" "near", .str "RING" "ring", .glo "TURNS", .glo "WAYS"]
def exB (K : PySem.W.Frag) : Bool := (He.tupB K "TURNS" [.str "stretch", .str "flip"]) && (He.tupB K "WAYS" [.str "any", .str "near", .str "move", .str "front"]) && (decide (PySem.W.nsIn K mainGlobals "gcd" = some (some (.builtin "math.gcd"))))
abbrev R : PySem.W.OpenRow := PySem.W.OpenLaw.row PySem.Challenge.rw_wrongplaces_k73_whole_medians
abbrev hk : PySem.W.Hook := He.hookX 5 fa fn [] [] exB
def ob (s : PySem.W.SharedT) : He.AlX := He.obsX 5 fa fn [] [] exB (HandSHeadRun.getT s)
theorem ob_eq (s : PySem.W.SharedT) : ob s = hk.obs s.abs := He.obsX_eq (HandSHeadRun.getT_eq s)
def loose : List PySem.Str := (["__name__", "PlaceError", "InvalidNumber", "InvalidRow", "InvalidWay", "is_whole", "is_between", "is_string", "is_row", "is_row_values", "lowest", "FEWEST_KINDS", "MOST_KINDS", "MOST_PLACES", "is_kinds", "check_kinds", "is_kind", "is_row_wants", "is_goal", "put_in_each", "shifted", "ANY", "NEAR", "MOVE", "FRONT", "STRETCH", "FLIP", "RING", "WAYS", "TURNS"] : List PySem.Str) ++ (["turned_at", "pairs_of", "done_by", "far_from", "is_way", "check_way", "MOST_ROWS", "sums_by", "medians_by", "mean_by", "widest_by", "check_rows", "medians", "mean_far", "widest_pair", "_law_bag", "_law_take", "_law_pull", "_law_row", "_law_mixed", "_law_all_rows", "_law_steps", "_law_off", "_law_way", "_law_lowest", "_law_medians", "_law_pair_far", "_law_right"] : List PySem.Str)
theorem run (w : World) : HandSHeadRun.RunEqI R (PySem.W.view R.prog [0, 66]) hk ob 4000 loose w := by
  unfold HandSHeadRun.RunEqI
  kernel_rfl
section
variable [PWo] {K : PySem.W.Frag} {mg : Str → Option Value} {h : Heap}
theorem fc_of (X : K.In h) (G : h.Ns mainGlobals mg) (c : He.SaysD fa fn K) (e : exB K = true) : Fc K mg := by
  unfold exB at e
  exact ⟨He.free_ok X G (c.fact 39 (f := .free "abs") rfl),
    He.free_ok X G (c.fact 40 (f := .free "all") rfl),
    He.free_ok X G (c.fact 41 (f := .free "bool") rfl),
    He.free_ok X G (c.fact 42 (f := .free "divmod") rfl),
    He.free_ok X G (c.fact 43 (f := .free "enumerate") rfl),
    He.free_ok X G (c.fact 44 (f := .free "int") rfl),
    He.free_ok X G (c.fact 45 (f := .free "isinstance") rfl),
    He.free_ok X G (c.fact 46 (f := .free "len") rfl),
    He.free_ok X G (c.fact 47 (f := .free "list") rfl),
    He.free_ok X G (c.fact 48 (f := .free "max") rfl),
    He.free_ok X G (c.fact 49 (f := .free "min") rfl),
    He.free_ok X G (c.fact 50 (f := .free "range") rfl),
    He.free_ok X G (c.fact 51 (f := .free "repr") rfl),
    He.free_ok X G (c.fact 52 (f := .free "set") rfl),
    He.free_ok X G (c.fact 53 (f := .free "sorted") rfl),
    He.free_ok X G (c.fact 54 (f := .free "str") rfl),
    He.free_ok X G (c.fact 55 (f := .free "sum") rfl),
    He.free_ok X G (c.fact 56 (f := .free "tuple") rfl),
    He.free_ok X G (c.fact 57 (f := .free "zip") rfl),
    PySem.W.mg_of X G (of_decide_eq_true ((He.ba e).2)),
    He.int_ok X G (c.fact 58 (f := .int "FEWEST_KINDS" (2)) rfl),
    He.str_ok X G (c.fact 59 (f := .str "FLIP" "flip") rfl),
    He.str_ok X G (c.fact 60 (f := .str "FRONT" "front") rfl),
    He.int_ok X G (c.fact 61 (f := .int "MOST_KINDS" (4)) rfl),
    He.int_ok X G (c.fact 62 (f := .int "MOST_PLACES" (7)) rfl),
    He.int_ok X G (c.fact 63 (f := .int "MOST_ROWS" (6)) rfl),
    He.str_ok X G (c.fact 64 (f := .str "MOVE" "move") rfl),
    He.str_ok X G (c.fact 65 (f := .str "NEAR" "near") rfl),
    He.str_ok X G (c.fact 66 (f := .str "RING" "ring") rfl),
    ⟨He.glo_ok X G (c.fact 67 (f := .glo "TURNS") rfl), fun H => He.tupB_ok ((He.ba (He.ba e).1).1) H⟩,
    ⟨He.glo_ok X G (c.fact 68 (f := .glo "WAYS") rfl), fun H => He.tupB_ok ((He.ba (He.ba e).1).2) H⟩⟩
theorem defs_ok {base : Heap} (X : K.In h) (G : h.Ns mainGlobals mg) (c : He.SaysD fa fn K) (e : exB K = true) : ∃ fd : FuncData, FnB K mg base "law" d_law 9 ["script"] m_law fd := by
  have F := fc_of X G c e
  obtain ⟨fd__law_bag, f__law_bag⟩ := c.def_ 0 (d := d__law_bag) rfl
  have G__law_bag := ok__law_bag (base := base) F f__law_bag (He.glo_ok X G (c.fact 0 (f := .glo "_law_bag") rfl))
  obtain ⟨fd__law_take, f__law_take⟩ := c.def_ 1 (d := d__law_take) rfl
  have G__law_take := ok__law_take (base := base) F f__law_take (He.glo_ok X G (c.fact 1 (f := .glo "_law_take") rfl))
  obtain ⟨fd__law_row, f__law_row⟩ := c.def_ 2 (d := d__law_row) rfl
  have G__law_row := ok__law_row (base := base) F f__law_row (He.glo_ok X G (c.fact 2 (f := .glo "_law_row") rfl)) G__law_take
  obtain ⟨fd__law_pull, f__law_pull⟩ := c.def_ 3 (d := d__law_pull) rfl
  have G__law_pull := ok__law_pull (base := base) F f__law_pull (He.glo_ok X G (c.fact 3 (f := .glo "_law_pull") rfl)) G__law_take
  obtain ⟨fd__law_way, f__law_way⟩ := c.def_ 4 (d := d__law_way) rfl
  have G__law_way := ok__law_way (base := base) F f__law_way (He.glo_ok X G (c.fact 4 (f := .glo "_law_way") rfl)) G__law_pull
  obtain ⟨fd__law_mixed, f__law_mixed⟩ := c.def_ 5 (d := d__law_mixed) rfl
  have G__law_mixed := ok__law_mixed (base := base) F f__law_mixed (He.glo_ok X G (c.fact 5 (f := .glo "_law_mixed") rfl)) G__law_take
  obtain ⟨fd__law_steps, f__law_steps⟩ := c.def_ 6 (d := d__law_steps) rfl
  have G__law_steps := ok__law_steps (base := base) F f__law_steps (He.glo_ok X G (c.fact 6 (f := .glo "_law_steps") rfl))
  obtain ⟨fd__law_off, f__law_off⟩ := c.def_ 7 (d := d__law_off) rfl
  have G__law_off := ok__law_off (base := base) F f__law_off (He.glo_ok X G (c.fact 7 (f := .glo "_law_off") rfl)) G__law_steps
  obtain ⟨fd__law_all_rows, f__law_all_rows⟩ := c.def_ 8 (d := d__law_all_rows) rfl
  have G__law_all_rows := ok__law_all_rows (base := base) F f__law_all_rows (He.glo_ok X G (c.fact 8 (f := .glo "_law_all_rows") rfl))
  obtain ⟨fd__law_medians, f__law_medians⟩ := c.def_ 9 (d := d__law_medians) rfl
  have G__law_medians := ok__law_medians (base := base) F f__law_medians (He.glo_ok X G (c.fact 9 (f := .glo "_law_medians") rfl)) G__law_off G__law_all_rows
  obtain ⟨fd_is_whole, f_is_whole⟩ := c.def_ 10 (d := d_is_whole) rfl
  have G_is_whole := ok_is_whole (base := base) F f_is_whole (He.glo_ok X G (c.fact 10 (f := .glo "is_whole") rfl))
  obtain ⟨fd_is_between, f_is_between⟩ := c.def_ 11 (d := d_is_between) rfl
  have G_is_between := ok_is_between (base := base) F f_is_between (He.glo_ok X G (c.fact 11 (f := .glo "is_between") rfl)) G_is_whole
  obtain ⟨fd_is_kinds, f_is_kinds⟩ := c.def_ 12 (d := d_is_kinds) rfl
  have G_is_kinds := ok_is_kinds (base := base) F f_is_kinds (He.glo_ok X G (c.fact 12 (f := .glo "is_kinds") rfl)) G_is_between
  obtain ⟨fd_check_kinds, f_check_kinds⟩ := c.def_ 13 (d := d_check_kinds) rfl
  have G_check_kinds := ok_check_kinds (base := base) F f_check_kinds (He.glo_ok X G (c.fact 13 (f := .glo "check_kinds") rfl)) G_is_kinds
  obtain ⟨fd_is_row_values, f_is_row_values⟩ := c.def_ 14 (d := d_is_row_values) rfl
  have G_is_row_values := ok_is_row_values (base := base) F f_is_row_values (He.glo_ok X G (c.fact 14 (f := .glo "is_row_values") rfl))
  obtain ⟨fd_is_kind, f_is_kind⟩ := c.def_ 15 (d := d_is_kind) rfl
  have G_is_kind := ok_is_kind (base := base) F f_is_kind (He.glo_ok X G (c.fact 15 (f := .glo "is_kind") rfl)) G_is_between
  obtain ⟨fd_is_row_wants, f_is_row_wants⟩ := c.def_ 16 (d := d_is_row_wants) rfl
  have G_is_row_wants := ok_is_row_wants (base := base) F f_is_row_wants (He.glo_ok X G (c.fact 16 (f := .glo "is_row_wants") rfl)) G_is_kind
  obtain ⟨fd_is_goal, f_is_goal⟩ := c.def_ 17 (d := d_is_goal) rfl
  have G_is_goal := ok_is_goal (base := base) F f_is_goal (He.glo_ok X G (c.fact 17 (f := .glo "is_goal") rfl)) G_is_row_wants
  obtain ⟨fd_is_string, f_is_string⟩ := c.def_ 18 (d := d_is_string) rfl
  have G_is_string := ok_is_string (base := base) F f_is_string (He.glo_ok X G (c.fact 18 (f := .glo "is_string") rfl))
  obtain ⟨fd_is_way, f_is_way⟩ := c.def_ 19 (d := d_is_way) rfl
  have G_is_way := ok_is_way (base := base) F f_is_way (He.glo_ok X G (c.fact 19 (f := .glo "is_way") rfl)) G_is_string
  obtain ⟨fd_check_way, f_check_way⟩ := c.def_ 20 (d := d_check_way) rfl
  have G_check_way := ok_check_way (base := base) F f_check_way (He.glo_ok X G (c.fact 20 (f := .glo "check_way") rfl)) G_is_way
  obtain ⟨fd_check_rows, f_check_rows⟩ := c.def_ 21 (d := d_check_rows) rfl
  have G_check_rows := ok_check_rows (base := base) F f_check_rows (He.glo_ok X G (c.fact 21 (f := .glo "check_rows") rfl)) G_check_kinds G_is_row_values G_is_row_wants G_is_goal G_check_way
  obtain ⟨fd_pairs_of, f_pairs_of⟩ := c.def_ 22 (d := d_pairs_of) rfl
  have G_pairs_of := ok_pairs_of (base := base) F f_pairs_of (He.glo_ok X G (c.fact 22 (f := .glo "pairs_of") rfl))
  obtain ⟨fd_shifted, f_shifted⟩ := c.def_ 23 (d := d_shifted) rfl
  have G_shifted := ok_shifted (base := base) F f_shifted (He.glo_ok X G (c.fact 23 (f := .glo "shifted") rfl))
  obtain ⟨fd_put_in_each, f_put_in_each⟩ := c.def_ 24 (d := d_put_in_each) rfl
  have G_put_in_each := ok_put_in_each (base := base) F f_put_in_each (He.glo_ok X G (c.fact 24 (f := .glo "put_in_each") rfl))
  obtain ⟨fd_done_by, f_done_by⟩ := c.def_ 25 (d := d_done_by) rfl
  have G_done_by := ok_done_by (base := base) F f_done_by (He.glo_ok X G (c.fact 25 (f := .glo "done_by") rfl)) G_shifted G_put_in_each
  obtain ⟨fd_far_from, f_far_from⟩ := c.def_ 26 (d := d_far_from) rfl
  have G_far_from := ok_far_from (base := base) F f_far_from (He.glo_ok X G (c.fact 26 (f := .glo "far_from") rfl)) G_pairs_of G_done_by
  obtain ⟨fd_sums_by, f_sums_by⟩ := c.def_ 27 (d := d_sums_by) rfl
  have G_sums_by := ok_sums_by (base := base) F f_sums_by (He.glo_ok X G (c.fact 27 (f := .glo "sums_by") rfl)) G_far_from
  obtain ⟨fd_medians_by, f_medians_by⟩ := c.def_ 28 (d := d_medians_by) rfl
  have G_medians_by := ok_medians_by (base := base) F f_medians_by (He.glo_ok X G (c.fact 28 (f := .glo "medians_by") rfl)) G_sums_by
  obtain ⟨fd_medians, f_medians⟩ := c.def_ 29 (d := d_medians) rfl
  have G_medians := ok_medians (base := base) F f_medians (He.glo_ok X G (c.fact 29 (f := .glo "medians") rfl)) G_check_rows G_medians_by
  obtain ⟨fd__law_pair_far, f__law_pair_far⟩ := c.def_ 30 (d := d__law_pair_far) rfl
  have G__law_pair_far := ok__law_pair_far (base := base) F f__law_pair_far (He.glo_ok X G (c.fact 30 (f := .glo "_law_pair_far") rfl)) G__law_off
  obtain ⟨fd__law_lowest, f__law_lowest⟩ := c.def_ 31 (d := d__law_lowest) rfl
  have G__law_lowest := ok__law_lowest (base := base) F f__law_lowest (He.glo_ok X G (c.fact 31 (f := .glo "_law_lowest") rfl))
  obtain ⟨fd_lowest, f_lowest⟩ := c.def_ 32 (d := d_lowest) rfl
  have G_lowest := ok_lowest (base := base) F f_lowest (He.glo_ok X G (c.fact 32 (f := .glo "lowest") rfl))
  obtain ⟨fd_mean_by, f_mean_by⟩ := c.def_ 33 (d := d_mean_by) rfl
  have G_mean_by := ok_mean_by (base := base) F f_mean_by (He.glo_ok X G (c.fact 33 (f := .glo "mean_by") rfl)) G_far_from G_lowest
  obtain ⟨fd_mean_far, f_mean_far⟩ := c.def_ 34 (d := d_mean_far) rfl
  have G_mean_far := ok_mean_far (base := base) F f_mean_far (He.glo_ok X G (c.fact 34 (f := .glo "mean_far") rfl)) G_check_rows G_mean_by
  obtain ⟨fd_widest_by, f_widest_by⟩ := c.def_ 35 (d := d_widest_by) rfl
  have G_widest_by := ok_widest_by (base := base) F f_widest_by (He.glo_ok X G (c.fact 35 (f := .glo "widest_by") rfl)) G_far_from
  obtain ⟨fd_widest_pair, f_widest_pair⟩ := c.def_ 36 (d := d_widest_pair) rfl
  have G_widest_pair := ok_widest_pair (base := base) F f_widest_pair (He.glo_ok X G (c.fact 36 (f := .glo "widest_pair") rfl)) G_check_rows G_widest_by
  obtain ⟨fd__law_right, f__law_right⟩ := c.def_ 37 (d := d__law_right) rfl
  have G__law_right := ok__law_right (base := base) F f__law_right (He.glo_ok X G (c.fact 37 (f := .glo "_law_right") rfl)) G__law_row G__law_way G__law_take G__law_mixed G__law_medians G_medians G__law_pair_far G__law_lowest G_mean_far G_widest_pair
  obtain ⟨fd_law, f_law⟩ := c.def_ 38 (d := d_law) rfl
  have G_law := ok_law (base := base) F f_law (He.glo_ok X G (c.fact 38 (f := .glo "law") rfl)) G__law_bag G__law_right
  exact ⟨fd_law, G_law⟩
end
end G
open PySem PySem.W PySem.Calls PyProof.Rows
theorem G.row_of (pure : ∀ ns : List Int, ns.length ≤ 63 → ∃ μ, G.m_law [.scr (ns.map .int)] [] = .ok (.bl true) μ) : PySem.Challenge.rw_wrongplaces_k73_whole_medians.Holds := by
  w_on; o_law
  refine HandSHeadRun.head_imp (r := OpenLaw.row PySem.Challenge.rw_wrongplaces_k73_whole_medians) (q := view (OpenLaw.row PySem.Challenge.rw_wrongplaces_k73_whole_medians).prog [0, 66]) (H := G.hk) (ob := G.ob) (M := 4000) (loose := G.loose) (d := HandSHeadRun.topDef (OpenLaw.row PySem.Challenge.rw_wrongplaces_k73_whole_medians).prog 66) (kwd := []) G.ob_eq G.run
    (by kernel_rfl) (by kernel_rfl) (by kernel_rfl) (by rfl) (by first | assumption | decide +kernel) (by decide +kernel) ⟨rfl, rfl, rfl, rfl, rfl, by decide +kernel⟩ ?hw ?hc
  case hw => w_witness2
  case hc =>
    refine Ev.walk_ev (l := PySem.Challenge.rw_wrongplaces_k73_whole_medians) (n := 63) (k := 9) (x := "script") rfl (by decide) (by kernel_rfl) ⟨rfl, by decide, by decide⟩ ?F pure
    intro w mg fa h Y Gns hmg0
    obtain ⟨K, KX, c⟩ := Y
    have hmg : mg ("law" : PySem.Str) = some (.ref fa) := by
      have e : (HandSHeadRun.topDef (OpenLaw.row PySem.Challenge.rw_wrongplaces_k73_whole_medians).prog 66).name = ("law" : PySem.Str) := by kernel_rfl
      rw [← e]
      exact hmg0
    letI : Ev.PWo := ⟨(PySem.Challenge.rw_wrongplaces_k73_whole_medians).prog, w⟩
    have cd := He.SaysT.d c.t
    obtain ⟨fd, f⟩ := cd.def_ 38 (d := G.d_law) rfl
    have ef := hmg.symm.trans (He.glo_ok KX Gns (cd.fact 38 (f := .glo "law") rfl))
    cases ef
    have b := L2.FunD.bindsA (ps := ["script"]) f fun _ _ _ _ _ _ us hl => match us, hl with | [_], _ => rfl
    refine ⟨K, fd, KX, fun s v => b s [v] rfl, fun base KB GB => ?_⟩
    obtain ⟨fd2, g⟩ := G.defs_ok (base := base) KB GB cd c.more
    have ee : fd2 = fd := Ev.fd_unique g.f f
    subst ee
    exact g.g

theorem PySem.Challenge.cw_wrongplaces_k73_whole_medians_holds : PySem.Challenge.rw_wrongplaces_k73_whole_medians.Holds :=
  G.row_of G.pure_ok
