import PyProof.Rows.All
import Wide.All
import OpenK.AllK
import Wide.FinOn
import HandS.ForMost
import HandS.ForExc
import HandS.Wide
import HandS.Walk
import HandS.Flow
import HandS.Deep
import KE.DataCmp
import KE.SortData
import HandS.TupAny
import HandS.TupMul
import HandS.IsInst
import PyProof.TupleOfStr
import KE.DataMinMax
import HandS.Star
import HandS.Zip
import HandS.NoneIn
import KE.GoesMore
import HandS.ExcOwn
import HandS.CallSlots
import HandS.Defaults
import HandS.Lambda
import PyProof.SumAny
import HandS.HeadHook2
import HandS.HeadEnd
import HandS.Ends
import KE.KStateDown
import HandS.More
import HandS.Words
import HandS.WordsExc
import HandS.Head0
import HandS.Head1
import HandS.Head2
import HandS.HeadHook1
import HandS.TupSets
import KE.KeyNested
import HandS.SetFor
import HandS.DictComp
import KE.KDictPairs
import PySem.Challenge.RW_upbyany_k75_lowest_and_highest_books
section
set_option Elab.async false
set_option linter.all false
set_option maxRecDepth 100000
namespace U
open PySem PySem.Spec PyProof.Rows L2


abbrev St := L2.St
inductive D where
  | non | bl (b : Bool) | int (i : Int) | str (x : List Nat)
  | tup (xs : List D) | lst (xs : List D) | dct (t : Bool) (ks vs : List D) | exc (c : Nat) (fs : List D)
  /-- a tuple whose object is known to have no dict -/
  | ptp (xs : List D)
  /-- the script -/
  | scr (ns : List Int)

abbrev stO (x : List Nat) : Str := ⟨x.toArray⟩

/-- a dict's key among D -/
def D.key : D → Option Key
  | .int i => some (.inl i)
  | .str x => some (.inr (stO x))
  | _ => none
def keysOf : List D → Option (List Key)
  | [] => some []
  | d :: ds => match d.key, keysOf ds with
    | some k, some ks => some (k :: ks)
    | _, _ => none
/-- a tuple of such as a key -/
def D.keyT : D → Option (List Key)
  | .tup xs => keysOf xs
  | _ => none
def keysTOf : List D → Option (List (List Key))
  | [] => some []
  | d :: ds => match d.keyT, keysTOf ds with
    | some k, some ks => some (k :: ks)
    | _, _ => none

mutual
inductive Rep (K : PySem.W.Frag) (F : Hp) : V → D → Prop
  | non : Rep K F .non .non
  | bl (b : Bool) : Rep K F (.bl b) (.bl b)
  | int (i : Int) : Rep K F (.int i) (.int i)
  | str (x : List Nat) : Rep K F (.str (stO x)) (.str x)
  | tup {a : Addr} {vs : List V} {ds : List D} : F a = some (.tup vs) → RepL K F vs ds → Rep K F (.ref a) (.tup ds)
  | lst {a : Addr} {vs : List V} {ds : List D} : F a = some (.lst vs) → RepL K F vs ds → Rep K F (.ref a) (.lst ds)
  | scr {a : Addr} {ns : List Int} : SqL K F a (ns.map V.int) → Rep K F (.ref a) (.scr ns)
  | dK {a : Addr} {o : Obj} {kvs : List (Key × V)} {ks ds : List D} : F a = some (.frz o (.dK kvs)) → keysOf ks = some (kvs.map (·.1)) → RepL K F (kvs.map (·.2)) ds → Rep K F (.ref a) (.dct false ks ds)
  | dT {a : Addr} {o : Obj} {kvs : List (List Key × V)} {ks ds : List D} : F a = some (.frz o (.dT kvs)) → keysTOf ks = some (kvs.map (·.1)) → RepL K F (kvs.map (·.2)) ds → Rep K F (.ref a) (.dct true ks ds)
  | ptp {a : Addr} {o : Obj} {vs : List V} {ds : List D} : F a = some (.frz o (.tup vs)) → o.dict = none → RepL K F vs ds → Rep K F (.ref a) (.ptp ds)
inductive RepL (K : PySem.W.Frag) (F : Hp) : List V → List D → Prop
  | nil : RepL K F [] []
  | cons {v : V} {vs : List V} {d : D} {ds : List D} : Rep K F v d → RepL K F vs ds → RepL K F (v :: vs) (d :: ds)
end

/-- more is frozen -/
def Sub (F F' : Hp) : Prop := ∀ a o, F a = some o → F' a = some o
theorem Sub.refl (F : Hp) : Sub F F := fun _ _ h => h
theorem Sub.trans {F G H : Hp} (a : Sub F G) (b : Sub G H) : Sub F H := fun x o h => b x o (a x o h)
theorem Sub.upd {F : Hp} {a : Addr} {o : HO} (h : F a = none) : Sub F (upd F a o) := fun b x e => by
  rw [upd_ne (ne_of_none e h)]; exact e
theorem Sub.sqL {K : PySem.W.Frag} {F F' : Hp} {a : Addr} {xs : List V} (e : Sub F F') (h : SqL K F a xs) : SqL K F' a xs := by
  rcases h with (h | ⟨o, h⟩) | h
  · exact .inl (.inl (e _ _ h))
  · exact .inl (.inr ⟨o, e _ _ h⟩)
  · exact .inr h
theorem Sub.rd {F F' : Hp} {a : Addr} {u : HO} (e : Sub F F') (h : Rd F a u) : Rd F' a u := by
  rcases h with h | ⟨o, h⟩
  · exact .inl (e _ _ h)
  · exact .inr ⟨o, e _ _ h⟩
theorem Sub.sqT {K : PySem.W.Frag} {F F' : Hp} {a : Addr} {xs : List V} (e : Sub F F') (h : SqT K F a xs) : SqT K F' a xs := by
  rcases h with (h | ⟨o, h⟩) | h
  · exact .inl (.inl (e _ _ h))
  · exact .inl (.inr ⟨o, e _ _ h⟩)
  · exact .inr h
mutual
theorem Rep.mono {K : PySem.W.Frag} {F F' : Hp} (e : Sub F F') : ∀ {v : V} {d : D}, Rep K F v d → Rep K F' v d
  | _, _, .non => .non
  | _, _, .bl b => .bl b
  | _, _, .int i => .int i
  | _, _, .str x => .str x
  | _, _, .tup h r => .tup (e _ _ h) (RepL.mono e r)
  | _, _, .lst h r => .lst (e _ _ h) (RepL.mono e r)
  | _, _, .scr h => .scr (e.sqL h)
  | _, _, .dK h k r => .dK (e _ _ h) k (RepL.mono e r)
  | _, _, .dT h k r => .dT (e _ _ h) k (RepL.mono e r)
  | _, _, .ptp h k r => .ptp (e _ _ h) k (RepL.mono e r)
theorem RepL.mono {K : PySem.W.Frag} {F F' : Hp} (e : Sub F F') : ∀ {vs : List V} {ds : List D}, RepL K F vs ds → RepL K F' vs ds
  | _, _, .nil => .nil
  | _, _, .cons h r => .cons (Rep.mono e h) (RepL.mono e r)
end
theorem RepL.length {K : PySem.W.Frag} {F : Hp} : ∀ {vs : List V} {ds : List D}, RepL K F vs ds → vs.length = ds.length
  | _, _, .nil => rfl
  | _, _, .cons _ r => congrArg (· + 1) r.length
theorem RepL.get {K : PySem.W.Frag} {F : Hp} : ∀ {vs : List V} {ds : List D}, RepL K F vs ds → ∀ {i : Nat} {d : D}, ds[i]? = some d → ∃ v, vs[i]? = some v ∧ Rep K F v d
  | _, _, .nil, i, d, e => by simp at e
  | _, _, .cons h r, 0, d, e => by simp at e; subst e; exact ⟨_, rfl, h⟩
  | _, _, .cons h r, i + 1, d, e => r.get (i := i) (by simpa using e)
theorem RepL.getV {K : PySem.W.Frag} {F : Hp} : ∀ {vs : List V} {ds : List D}, RepL K F vs ds → ∀ {i : Nat} {v : V}, vs[i]? = some v → ∃ d, ds[i]? = some d ∧ Rep K F v d
  | _, _, .nil, i, d, e => by simp at e
  | _, _, .cons h r, 0, d, e => by simp at e; subst e; exact ⟨_, rfl, h⟩
  | _, _, .cons h r, i + 1, d, e => r.getV (i := i) (by simpa using e)
theorem RepL.append {K : PySem.W.Frag} {F : Hp} : ∀ {vs ws : List V} {ds es : List D}, RepL K F vs ds → RepL K F ws es → RepL K F (vs ++ ws) (ds ++ es)
  | _, _, _, _, .nil, s => s
  | _, _, _, _, .cons h r, s => .cons h (r.append s)
theorem RepL.take {K : PySem.W.Frag} {F : Hp} : ∀ {vs : List V} {ds : List D} (n : Nat), RepL K F vs ds → RepL K F (vs.take n) (ds.take n)
  | _, _, 0, _ => .nil
  | _, _, _ + 1, .nil => .nil
  | _, _, n + 1, .cons h r => .cons h (r.take n)
theorem RepL.drop {K : PySem.W.Frag} {F : Hp} : ∀ {vs : List V} {ds : List D} (n : Nat), RepL K F vs ds → RepL K F (vs.drop n) (ds.drop n)
  | _, _, 0, r => r
  | _, _, _ + 1, .nil => .nil
  | _, _, n + 1, .cons _ r => r.drop n
theorem RepL.set {K : PySem.W.Frag} {F : Hp} {v : V} {d : D} (h : Rep K F v d) : ∀ {vs : List V} {ds : List D} (n : Nat), RepL K F vs ds → RepL K F (vs.set n v) (ds.set n d)
  | _, _, _, .nil => .nil
  | _, _, 0, .cons _ r => .cons h r
  | _, _, n + 1, .cons g r => .cons g (r.set h n)
theorem RepL.eraseIdx {K : PySem.W.Frag} {F : Hp} : ∀ {vs : List V} {ds : List D} (n : Nat), RepL K F vs ds → RepL K F (vs.eraseIdx n) (ds.eraseIdx n)
  | _, _, _, .nil => .nil
  | _, _, 0, .cons _ r => r
  | _, _, n + 1, .cons g r => .cons g (r.eraseIdx n)
theorem RepL.ints {K : PySem.W.Frag} {F : Hp} : ∀ {vs : List V} {ns : List Int}, RepL K F vs (ns.map D.int) → vs = ns.map V.int
  | _, [], .nil => rfl
  | _, n :: ns, .cons h r => by cases h; rw [r.ints]; rfl
theorem RepL.of_ints {K : PySem.W.Frag} {F : Hp} : ∀ (ns : List Int), RepL K F (ns.map V.int) (ns.map D.int)
  | [] => .nil
  | n :: ns => .cons (.int n) (RepL.of_ints ns)

/-! ### slots -/
/-- an owned object: a list, a dict -/
inductive OV where
  | l (ds : List D)
  | d (t : Bool) (ks vs : List D)
inductive Sl where
  | no
  | val (d : D)
  /-- an owned object: no one else holds it -/
  | own (o : OV)
  /-- one lent by the caller -/
  | io (o : OV)
abbrev T := List Sl
def Sl.mut : Sl → Option OV
  | .own o => some o
  | .io o => some o
  | _ => none
inductive OwnO (K : PySem.W.Frag) (F : Hp) : OV → HO → Prop
  | l {ds : List D} {vs : List V} : RepL K F vs ds → OwnO K F (.l ds) (.lst vs)
  | dK {kvs : List (Key × V)} {ks ds : List D} : keysOf ks = some (kvs.map (·.1)) → RepL K F (kvs.map (·.2)) ds → OwnO K F (.d false ks ds) (.dK kvs)
  | dT {kvs : List (List Key × V)} {ks ds : List D} : keysTOf ks = some (kvs.map (·.1)) → RepL K F (kvs.map (·.2)) ds → OwnO K F (.d true ks ds) (.dT kvs)
theorem OwnO.mono {K : PySem.W.Frag} {F F' : Hp} {o : OV} {u : HO} (e : Sub F F') (h : OwnO K F o u) : OwnO K F' o u := by
  cases h with
  | l r => exact .l (r.mono e)
  | dK k r => exact .dK k (r.mono e)
  | dT k r => exact .dT k (r.mono e)

/-- what the frame may change (m), where its lent objects stand (ad) -/
structure MS where
  m : Addr → Prop
  ad : Nat → Addr
/-- M: what the frame may change. F: what is frozen -/
structure SRel (K : PySem.W.Frag) (M : MS) (F H : Hp) (σ : St) (τ : T) : Prop where
  len : τ.length ≤ σ.length
  up : ∀ a, H a = none → M.m a
  sub : Sub F H
  val : ∀ (i : Nat) (d : D), τ[i]? = some (Sl.val d) → ∃ v : V, σ[i]? = some (some v) ∧ Rep K F v d
  own : ∀ (i : Nat) (s : Sl) (o : OV), τ[i]? = some s → s.mut = some o → ∃ (a : Addr) (u : HO), σ[i]? = some (some (V.ref a)) ∧ H a = some u ∧ F a = none ∧ M.m a ∧ OwnO K F o u
  apart : ∀ (i j : Nat) (s t : Sl) (a : Addr), τ[i]? = some s → s.mut ≠ none → τ[j]? = some t → t.mut ≠ none → σ[i]? = some (some (V.ref a)) → σ[j]? = some (some (V.ref a)) → i = j
  io : ∀ (i : Nat) (o : OV), τ[i]? = some (Sl.io o) → σ[i]? = some (some (V.ref (M.ad i)))

structure Grow (M : MS) (F H F' H' : Hp) : Prop where
  there : ∀ a, H' a = none → H a = none
  frz : Sub F F'
  keep : ∀ a o, H a = some o → ¬ M.m a → H' a = some o
  free : ∀ a, F a = none → H a ≠ none → ¬ M.m a → F' a = none

theorem Grow.refl {M : MS} {F H : Hp} : Grow M F H F H := ⟨fun _ h => h, Sub.refl _, fun _ _ h _ => h, fun _ h _ _ => h⟩
theorem Grow.trans {M : MS} {F H F1 H1 F2 H2 : Hp} (a : Grow M F H F1 H1) (b : Grow M F1 H1 F2 H2) : Grow M F H F2 H2 where
  there := fun x h => a.there x (b.there x h)
  frz := a.frz.trans b.frz
  keep := fun x o h m => b.keep x o (a.keep x o h m) m
  free := fun x h e m => b.free x (a.free x h e m) (fun z => e (a.there x z)) m
theorem Grow.mono {M N : MS} {F H F' H' : Hp} (a : Grow M F H F' H') (h : ∀ x, M.m x → N.m x) : Grow N F H F' H' :=
  ⟨a.there, a.frz, fun x o e m => a.keep x o e fun z => m (h x z), fun x e e2 m => a.free x e e2 fun z => m (h x z)⟩

/-- an exception of an own class: which, its fields -/
structure Ex where
  c : Nat
  fs : List D
inductive Rs (α : Type) where
  | ok (a : α) (t : T)
  | exc (x : Ex) (t : T)
  | stuck
def Rs.bind {α β : Type} (m : Rs α) (f : α → T → Rs β) : Rs β := match m with
  | .ok a t => f a t
  | .exc x t => .exc x t
  | .stuck => .stuck

/-- what is wished of an exception: the wish of the context -/
abbrev EW := Ex → St → Hp → Prop
end U
end

section
set_option Elab.async false
set_option linter.all false
set_option maxRecDepth 100000
namespace U
open PySem PySem.Spec PyProof.Rows L2

/-- the program's exception classes: where each stands, its fields -/
structure PX where
  cls : Nat → Addr
  flds : Nat → List Str
/-- an exception's own dict -/
def XD (K : PySem.W.Frag) (px : PX) (F H : Hp) (x : Ex) (dd : Option Addr) : Prop :=
  (px.flds x.c = [] ∧ x.fs = [] ∧ dd = none) ∨ ∃ (d : Addr) (fs : List (Str × V)) (vs : List V), dd = some d ∧ H d = some (.xd fs) ∧ fs.map (·.2) = vs ∧ fs.map (·.1) = px.flds x.c ∧ RepL K F vs x.fs

/-- what is wanted behind a piece that ends so -/
def Post (K : PySem.W.Frag) (px : PX) (W : WX) (M : MS) (F H : Hp) (σ : St) {α : Type} : Rs α → (α → T → Hp → Hp → Prop) → Prop
  | .ok a τ', R => ∀ F' H', Grow M F H F' H' → SRel K M F' H' σ τ' → R a τ' F' H'
  | .exc x τ', _ => ∀ F' H', Grow M F H F' H' → SRel K M F' H' σ τ' → ∀ dd, XD K px F' H' x dd → W (.ref (px.cls x.c)) dd σ H'
  | .stuck, _ => False
section
variable {K : PySem.W.Frag} {px : PX} {W : WX} {M : MS} {F H F1 H1 : Hp} {σ : St} {τ : T} {α β : Type}
theorem Post.imp {m : Rs α} {R R' : α → T → Hp → Hp → Prop} (p : Post K px W M F H σ m R) (h : ∀ a τ' F' H', Grow M F H F' H' → SRel K M F' H' σ τ' → R a τ' F' H' → R' a τ' F' H') : Post K px W M F H σ m R' := by
  cases m with
  | ok a t => exact fun F' H' g s => h a t F' H' g s (p F' H' g s)
  | exc x t => exact p
  | stuck => exact p
theorem Post.from {m : Rs α} {R : α → T → Hp → Hp → Prop} (p : Post K px W M F H σ m R) (g : Grow M F H F1 H1) : Post K px W M F1 H1 σ m R := by
  cases m with
  | ok a t => exact fun F' H' g' s => p F' H' (g.trans g') s
  | exc x t => exact fun F' H' g' s => p F' H' (g.trans g') s
  | stuck => exact p
theorem Post.bind {m : Rs α} {k : α → T → Rs β} {R : β → T → Hp → Hp → Prop} (p : Post K px W M F H σ (m.bind k) R) : Post K px W M F H σ m (fun a τ' F' H' => Post K px W M F' H' σ (k a τ') R) := by
  cases m with
  | ok a t => exact fun F' H' g s => Post.from p g
  | exc x t => exact p
  | stuck => exact p
theorem Post.ok {a : α} {τ' : T} {R : α → T → Hp → Hp → Prop} (p : Post K px W M F H σ (.ok a τ') R) (s : SRel K M F H σ τ') : R a τ' F H := p F H .refl s
theorem Post.now {m : Rs α} {R : α → T → Hp → Hp → Prop} {a : α} {τ' : T} (p : Post K px W M F H σ m R) (e : m = .ok a τ') (s : SRel K M F H σ τ') : R a τ' F H := by
  subst e; exact p F H .refl s
/-- M may be smaller inside -/
theorem Post.less {N : MS} {m : Rs α} {R R' : α → T → Hp → Hp → Prop} (hN : ∀ a, N.m a → M.m a) (hs : ∀ τ' F' H', Grow N F H F' H' → SRel K N F' H' σ τ' → SRel K M F' H' σ τ') (p : Post K px W M F H σ m R)
    (h : ∀ a τ' F' H', Grow M F H F' H' → Grow N F H F' H' → SRel K N F' H' σ τ' → R a τ' F' H' → R' a τ' F' H') : Post K px W N F H σ m R' := by
  cases m with
  | ok a t => exact fun F' H' g s => h a t F' H' (g.mono hN) g s (p F' H' (g.mono hN) (hs t F' H' g s))
  | exc x t => exact fun F' H' g s => p F' H' (g.mono hN) (hs t F' H' g s)
  | stuck => exact p
end

/-! ### readings -/
def rdE (K : PySem.W.Frag) (px : PX) (W : WX) (f : T → Rs D) : TE := fun σ H Q => ∃ M F τ, SRel K M F H σ τ ∧ Post K px W M F H σ (f τ) fun d _ F' H' => ∀ v, Rep K F' v d → Q v H'
def rdT (K : PySem.W.Frag) (px : PX) (W : WX) (f : T → Rs Bool) : TT := fun σ H Q => ∃ M F τ, SRel K M F H σ τ ∧ Post K px W M F H σ (f τ) fun b _ _ H' => Q b H'
def rdA (K : PySem.W.Frag) (px : PX) (W : WX) (f : T → Rs (List D)) : TA := fun σ H Q => ∃ M F τ, SRel K M F H σ τ ∧ Post K px W M F H σ (f τ) fun ds _ F' H' => ∀ vs, RepL K F' vs ds → Q vs H'
/-- a new owned object -/
def OwnR (K : PySem.W.Frag) (M : MS) (F H : Hp) (σ : St) (τ : T) (v : V) (o : OV) : Prop :=
  ∃ a u, v = .ref a ∧ H a = some u ∧ F a = none ∧ M.m a ∧ OwnO K F o u ∧ ∀ (i : Nat) (s : Sl), τ[i]? = some s → s.mut ≠ none → σ[i]? ≠ some (some (V.ref a))
def rdO (K : PySem.W.Frag) (px : PX) (W : WX) (f : T → Rs OV) : TE := fun σ H Q => ∃ M F τ, SRel K M F H σ τ ∧ Post K px W M F H σ (f τ) fun o τ' F' H' => ∀ v, OwnR K M F' H' σ τ' v o → Q v H'

/-- the context of a proof: X stands for the pieces, W is what it wishes of exceptions -/
def JE (px : PX) (W : WX) (X : Cx) (e : Expr) (f : T → Rs D) : Prop := PE X e (rdE X.K px W f)
def JT (px : PX) (W : WX) (X : Cx) (e : Expr) (f : T → Rs Bool) : Prop := PT X e (rdT X.K px W f)
def JA (px : PX) (W : WX) (X : Cx) (es : List Expr) (f : T → Rs (List D)) : Prop := PA X es (rdA X.K px W f)
def JO (px : PX) (W : WX) (X : Cx) (e : Expr) (f : T → Rs OV) : Prop := PE X e (rdO X.K px W f)

theorem PE.imp {X : Cx} {e : Expr} {t t' : TE} (h : PE X e t) (i : ∀ σ H Q, t' σ H Q → t σ H Q) : PE X e t' := ⟨fun pins s σ H Q I q => h.run pins s σ H Q I (i _ _ _ q)⟩
theorem PT.imp {X : Cx} {e : Expr} {t t' : TT} (h : PT X e t) (i : ∀ σ H Q, t' σ H Q → t σ H Q) : PT X e t' := ⟨fun pins s σ H Q I q => h.run pins s σ H Q I (i _ _ _ q)⟩
theorem PA.imp {X : Cx} {e : List Expr} {t t' : TA} (h : PA X e t) (i : ∀ σ H Q, t' σ H Q → t σ H Q) : PA X e t' := ⟨fun p pins s σ H Q I q => h.run p pins s σ H Q I (i _ _ _ q)⟩

section
variable {K : PySem.W.Frag} {px : PX} {W : WX} {M : MS} {F H F1 H1 : Hp} {σ : St} {τ : T}
/-- one operand, then the rest -/
theorem rdE_bind {α : Type} {fa : T → Rs D} {k : D → T → Rs α} {R : α → T → Hp → Hp → Prop} {Q : VK} (s : SRel K M F H σ τ) (p : Post K px W M F H σ ((fa τ).bind k) R)
    (h : ∀ d τ1 F1 H1 v, Grow M F H F1 H1 → SRel K M F1 H1 σ τ1 → Rep K F1 v d → Post K px W M F1 H1 σ (k d τ1) R → Q v H1) : rdE K px W fa σ H Q :=
  ⟨M, F, τ, s, p.bind.imp fun d τ1 F1 H1 g s1 q v r => h d τ1 F1 H1 v g s1 r q⟩
theorem rdT_bind {α : Type} {fa : T → Rs Bool} {k : Bool → T → Rs α} {R : α → T → Hp → Hp → Prop} {Q : Bool → Hp → Prop} (s : SRel K M F H σ τ) (p : Post K px W M F H σ ((fa τ).bind k) R)
    (h : ∀ d τ1 F1 H1, Grow M F H F1 H1 → SRel K M F1 H1 σ τ1 → Post K px W M F1 H1 σ (k d τ1) R → Q d H1) : rdT K px W fa σ H Q :=
  ⟨M, F, τ, s, p.bind.imp fun d τ1 F1 H1 g s1 q => h d τ1 F1 H1 g s1 q⟩
theorem rdA_bind {α : Type} {fa : T → Rs (List D)} {k : List D → T → Rs α} {R : α → T → Hp → Hp → Prop} {Q : List V → Hp → Prop} (s : SRel K M F H σ τ) (p : Post K px W M F H σ ((fa τ).bind k) R)
    (h : ∀ ds τ1 F1 H1 vs, Grow M F H F1 H1 → SRel K M F1 H1 σ τ1 → RepL K F1 vs ds → Post K px W M F1 H1 σ (k ds τ1) R → Q vs H1) : rdA K px W fa σ H Q :=
  ⟨M, F, τ, s, p.bind.imp fun d τ1 F1 H1 g s1 q v r => h d τ1 F1 H1 v g s1 r q⟩
theorem rdO_bind {α : Type} {fa : T → Rs OV} {k : OV → T → Rs α} {R : α → T → Hp → Hp → Prop} {Q : VK} (s : SRel K M F H σ τ) (p : Post K px W M F H σ ((fa τ).bind k) R)
    (h : ∀ o τ1 F1 H1 v, Grow M F H F1 H1 → SRel K M F1 H1 σ τ1 → OwnR K M F1 H1 σ τ1 v o → Post K px W M F1 H1 σ (k o τ1) R → Q v H1) : rdO K px W fa σ H Q :=
  ⟨M, F, τ, s, p.bind.imp fun d τ1 F1 H1 g s1 q v r => h d τ1 F1 H1 v g s1 r q⟩

/-! ### the heap grows: a new frozen object -/
theorem SRel.new {p : Addr} {o : HO} (s : SRel K M F H σ τ) (hp : H p = none) : F p = none := by
  cases e : F p with
  | none => rfl
  | some u => rw [s.sub p u e] at hp; cases hp
theorem grow_new {p : Addr} {o : HO} (hp : H p = none) (hf : F p = none) : Grow M F H (upd F p o) (upd H p o) where
  there := fun a e => by
    by_cases h : a = p
    · rw [h, upd_same] at e; cases e
    · rw [upd_ne h] at e; exact e
  frz := Sub.upd hf
  keep := fun a u e _ => by rw [upd_ne (ne_of_none e hp)]; exact e
  free := fun a e n _ => by
    by_cases h : a = p
    · subst h; exact absurd hp n
    · rw [upd_ne h]; exact e
theorem SRel.lay {p : Addr} {o : HO} (s : SRel K M F H σ τ) (hp : H p = none) : SRel K M (upd F p o) (upd H p o) σ τ := by
  have hf : F p = none := s.new (o := o) hp
  refine ⟨s.len, fun a e => ?_, fun a u e => ?_, fun i d e => ?_, fun i sl ov e1 e2 => ?_, s.apart, s.io⟩
  · by_cases h : a = p
    · rw [h, upd_same] at e; cases e
    · rw [upd_ne h] at e; exact s.up a e
  · by_cases h : a = p
    · rw [h, upd_same] at e ⊢; exact e
    · rw [upd_ne h] at e ⊢; exact s.sub a u e
  · obtain ⟨v, e1, r⟩ := s.val i d e
    exact ⟨v, e1, r.mono (Sub.upd hf)⟩
  · obtain ⟨a, u, h1, h2, h3, h4, h5⟩ := s.own i sl ov e1 e2
    have ne : a ≠ p := ne_of_none h2 hp
    exact ⟨a, u, h1, by rw [upd_ne ne]; exact h2, by rw [upd_ne ne]; exact h3, h4, h5.mono (Sub.upd hf)⟩
/-- a new object that is not frozen -/
theorem grow_alloc {p : Addr} {o : HO} (hp : H p = none) : Grow M F H F (upd H p o) where
  there := fun a e => by
    by_cases h : a = p
    · rw [h, upd_same] at e; cases e
    · rw [upd_ne h] at e; exact e
  frz := Sub.refl _
  keep := fun a u e _ => by rw [upd_ne (ne_of_none e hp)]; exact e
  free := fun a e _ _ => e
theorem SRel.alloc {p : Addr} {o : HO} (s : SRel K M F H σ τ) (hp : H p = none) : SRel K M F (upd H p o) σ τ := by
  refine ⟨s.len, fun a e => ?_, fun a u e => ?_, s.val, fun i sl ov e1 e2 => ?_, s.apart, s.io⟩
  · by_cases h : a = p
    · rw [h, upd_same] at e; cases e
    · rw [upd_ne h] at e; exact s.up a e
  · rw [upd_ne (ne_of_none (s.sub a u e) hp)]; exact s.sub a u e
  · obtain ⟨a, u, h1, h2, h3, h4, h5⟩ := s.own i sl ov e1 e2
    exact ⟨a, u, h1, by rw [upd_ne (ne_of_none h2 hp)]; exact h2, h3, h4, h5⟩
theorem SRel.fresh_own {p : Addr} {u : HO} {o : OV} (s : SRel K M F H σ τ) (hp : H p = none) (h : OwnO K F o u) : OwnR K M F (upd H p u) σ τ (.ref p) o :=
  ⟨p, u, rfl, upd_same, s.new (o := u) hp, s.up p hp, h, fun i sl e m z => by
    cases q : sl.mut with
    | none => exact m q
    | some ov =>
      obtain ⟨a, w, h1, h2, _⟩ := s.own i sl ov e q
      rw [h1] at z
      cases z
      rw [hp] at h2; cases h2⟩
end
end U
end

section
set_option Elab.async false
set_option linter.all false
set_option maxRecDepth 100000
namespace U
open PySem PySem.Spec PyProof.Rows L2

def OV.toD : OV → D
  | .l ds => .lst ds
  | .d t ks vs => .dct t ks vs
/-- new frozen objects, nothing else -/
structure New (F H F' H' : Hp) : Prop where
  keep : Sub H H'
  frz : Sub F F'
  sub : Sub F' H'
  free : ∀ a, F a = none → H a ≠ none → F' a = none
section
variable {K : PySem.W.Frag} {px : PX} {W : WX} {M : MS} {F H F1 H1 F2 H2 : Hp} {σ : St} {τ : T}
theorem New.refl (h : Sub F H) : New F H F H := ⟨Sub.refl _, Sub.refl _, h, fun _ e _ => e⟩
theorem New.trans (a : New F H F1 H1) (b : New F1 H1 F2 H2) : New F H F2 H2 :=
  ⟨a.keep.trans b.keep, a.frz.trans b.frz, b.sub, fun x e n => b.free x (a.free x e n) fun z => by
    cases q : H x with
    | none => exact n q
    | some o => rw [a.keep x o q] at z; cases z⟩
theorem none_of_sub {F H : Hp} {p : Addr} (h : Sub F H) (e : H p = none) : F p = none := by
  cases q : F p with
  | none => rfl
  | some o => rw [h p o q] at e; cases e
theorem New.lay {p : Addr} {o : HO} (h : Sub F H) (hp : H p = none) : New F H (upd F p o) (upd H p o) where
  keep := Sub.upd hp
  frz := Sub.upd (none_of_sub h hp)
  sub := fun a u e => by
    by_cases q : a = p
    · rw [q, upd_same] at e ⊢; exact e
    · rw [upd_ne q] at e ⊢; exact h a u e
  free := fun a e n => by
    by_cases q : a = p
    · subst q; exact absurd hp n
    · rw [upd_ne q]; exact e
/-- .. of an object that is not frozen as yet -/
theorem New.alloc {p : Addr} {o : HO} (h : Sub F H) (hp : H p = none) : New F H F (upd H p o) where
  keep := Sub.upd hp
  frz := Sub.refl _
  sub := fun a u e => (Sub.upd hp) a u (h a u e)
  free := fun a e _ => e
theorem New.grow (n : New F H F1 H1) : Grow M F H F1 H1 where
  there := fun a e => none_of_sub n.keep e
  frz := n.frz
  keep := fun a o e _ => n.keep a o e
  free := fun a e x _ => n.free a e x
theorem New.srel (n : New F H F1 H1) (s : SRel K M F H σ τ) : SRel K M F1 H1 σ τ := by
  refine ⟨s.len, fun a e => s.up a (none_of_sub n.keep e), n.sub, fun i d e => ?_, fun i sl ov e1 e2 => ?_, s.apart, s.io⟩
  · obtain ⟨v, e1, r⟩ := s.val i d e
    exact ⟨v, e1, r.mono n.frz⟩
  · obtain ⟨a, u, h1, h2, h3, h4, h5⟩ := s.own i sl ov e1 e2
    exact ⟨a, u, h1, n.keep _ _ h2, n.free a h3 (by rw [h2]; exact fun z => nomatch z), h4, h5.mono n.frz⟩

/-- v is now d: frozen, or an owned object as it stands -/
def Now (K : PySem.W.Frag) (F H : Hp) (v : V) (d : D) : Prop := Rep K F v d ∨ ∃ a u o, v = .ref a ∧ H a = some u ∧ OwnO K F o u ∧ d = o.toD
inductive NowL (K : PySem.W.Frag) (F H : Hp) : List V → List D → Prop
  | nil : NowL K F H [] []
  | cons {v : V} {vs : List V} {d : D} {ds : List D} : Now K F H v d → NowL K F H vs ds → NowL K F H (v :: vs) (d :: ds)
theorem Now.of (h : Rep K F v d) : Now K F H v d := .inl h
theorem NowL.of : ∀ {vs : List V} {ds : List D}, RepL K F vs ds → NowL K F H vs ds
  | _, _, .nil => .nil
  | _, _, .cons h r => .cons (.inl h) (NowL.of r)
theorem Now.lst {v : V} {ds : List D} (h : Now K F H v (.lst ds)) (s : Sub F H) : ∃ a vs, v = .ref a ∧ H a = some (.lst vs) ∧ RepL K F vs ds := by
  rcases h with h | ⟨a, u, o, rfl, hu, ho, e⟩
  · cases h with
    | lst q r => exact ⟨_, _, rfl, s _ _ q, r⟩
  · cases ho with
    | l r => cases e; exact ⟨a, _, rfl, hu, r⟩
    | dK _ _ => cases e
    | dT _ _ => cases e
theorem Now.tup {v : V} {ds : List D} (h : Now K F H v (.tup ds)) (s : Sub F H) : ∃ a vs, v = .ref a ∧ H a = some (.tup vs) ∧ RepL K F vs ds := by
  rcases h with h | ⟨a, u, o, rfl, hu, ho, e⟩
  · cases h with
    | tup q r => exact ⟨_, _, rfl, s _ _ q, r⟩
  · cases ho <;> cases e
theorem Now.ptp {v : V} {ds : List D} (h : Now K F H v (.ptp ds)) (s : Sub F H) : ∃ a o vs, v = .ref a ∧ H a = some (.frz o (.tup vs)) ∧ o.dict = none ∧ RepL K F vs ds ∧ Rep K F v (.ptp ds) := by
  rcases h with h | ⟨a, u, o, rfl, hu, ho, e⟩
  · cases h with
    | ptp q k r => exact ⟨_, _, _, rfl, s _ _ q, k, r, .ptp q k r⟩
  · cases ho <;> cases e
theorem Now.int {v : V} {i : Int} (h : Now K F H v (.int i)) : v = .int i := by
  rcases h with h | ⟨a, u, o, rfl, hu, ho, e⟩
  · cases h; rfl
  · cases ho <;> cases e
theorem Now.str {v : V} {x : List Nat} (h : Now K F H v (.str x)) : v = .str (stO x) := by
  rcases h with h | ⟨a, u, o, rfl, hu, ho, e⟩
  · cases h; rfl
  · cases ho <;> cases e
theorem Now.bl {v : V} {b : Bool} (h : Now K F H v (.bl b)) : v = .bl b := by
  rcases h with h | ⟨a, u, o, rfl, hu, ho, e⟩
  · cases h; rfl
  · cases ho <;> cases e
theorem Now.non {v : V} (h : Now K F H v .non) : v = .non := by
  rcases h with h | ⟨a, u, o, rfl, hu, ho, e⟩
  · cases h; rfl
  · cases ho <;> cases e
end

/-- what a primitive hands back -/
inductive PR where
  | d (d : D)
  | o (o : OV)
def PR.toD : PR → D
  | .d z => z
  | .o z => z.toD
/-- the wish about a primitive's result -/
def PW (K : PySem.W.Frag) (F H : Hp) (r : PR) (Q : VK) : Prop := match r with
  | .d d => ∀ v F' H', New F H F' H' → Rep K F' v d → Q v H'
  | .o o => ∀ p u F' H', New F H F' H' → H' p = none → OwnO K F' o u → Q (.ref p) (upd H' p u)
def r2 (K : PySem.W.Frag) (g : D → D → Option PR) : R2 := fun x y H Q => ∃ F d e r, Sub F H ∧ Now K F H x d ∧ Now K F H y e ∧ g d e = some r ∧ PW K F H r Q
def r1 (K : PySem.W.Frag) (g : D → Option PR) : V → Hp → VK → Prop := fun x H Q => ∃ F d r, Sub F H ∧ Now K F H x d ∧ g d = some r ∧ PW K F H r Q
def rC (K : PySem.W.Frag) (g : List D → Option PR) : List V → Hp → VK → Prop := fun xs H Q => ∃ F ds r, Sub F H ∧ NowL K F H xs ds ∧ g ds = some r ∧ PW K F H r Q
def rM (K : PySem.W.Frag) (g : D → List D → Option PR) : V → List V → Hp → VK → Prop := fun x xs H Q => ∃ F d ds r, Sub F H ∧ Now K F H x d ∧ NowL K F H xs ds ∧ g d ds = some r ∧ PW K F H r Q

section
variable {K : PySem.W.Frag} {F H : Hp} {Q : VK}
theorem PW.scal {d : D} {v : V} (s : Sub F H) (p : PW K F H (.d d) Q) (r : Rep K F v d) : Q v H := p v F H (.refl s) r
theorem PW.lst {ds : List D} {vs : List V} (s : Sub F H) (p : PW K F H (.o (.l ds)) Q) (r : RepL K F vs ds) : ∀ l, H l = none → Q (.ref l) (upd H l (.lst vs)) :=
  fun l hl => p l _ F H (.refl s) hl (.l r)
theorem PW.tup {ds : List D} {vs : List V} (s : Sub F H) (p : PW K F H (.d (.tup ds)) Q) (r : RepL K F vs ds) : ∀ l, H l = none → Q (.ref l) (upd H l (.tup vs)) :=
  fun l hl => p (.ref l) _ _ (.lay s hl) (.tup upd_same (r.mono (Sub.upd (none_of_sub s hl))))
end

/-! ### ints -/
section
variable {X : Cx}
def gInt (c : Int → Int → Bool) (f : Int → Int → Int) : D → D → Option PR
  | .int i, .int j => if c i j then some (.d (.int (f i j))) else none
  | _, _ => none
theorem gInt_some {c : Int → Int → Bool} {f : Int → Int → Int} {d e : D} {r : PR} (h : gInt c f d e = some r) : ∃ i j, d = .int i ∧ e = .int j ∧ c i j = true ∧ r = .d (.int (f i j)) := by
  cases d with
  | int i => cases e with
    | int j =>
      have h : (if c i j = true then some (PR.d (D.int (f i j))) else none) = some r := h
      by_cases q : c i j = true
      · rw [if_pos q] at h; exact ⟨i, j, rfl, rfl, q, (Option.some.inj h).symm⟩
      · rw [if_neg q] at h; cases h
    | _ => cases h
  | _ => cases h
theorem op_int {g : Value → Value → Sem Value} {C : Int → Int → Prop} {c : Int → Int → Bool} {f : Int → Int → Int} (h : OpR X g (rI C fun i j => .int (f i j))) (hc : ∀ i j, c i j = true → C i j) : OpR X g (r2 X.K (gInt c f)) := by
  intro pins s σ H x y v u Q I rx ry ⟨F, d, e, r, sb, nx, ny, hg, pw⟩
  obtain ⟨i, j, rfl, rfl, hcc, rfl⟩ := gInt_some hg
  exact h pins s σ H x y v u Q I rx ry ⟨i, j, nx.int, ny.int, hc i j hcc, pw.scal sb (.int _)⟩
theorem op_int0 {g : Value → Value → Sem Value} {f : Int → Int → Int} (h : OpR X g (rI0 fun i j => .int (f i j))) : OpR X g (r2 X.K (gInt (fun _ _ => true) f)) := by
  intro pins s σ H x y v u Q I rx ry ⟨F, d, e, r, sb, nx, ny, hg, pw⟩
  obtain ⟨i, j, rfl, rfl, hcc, rfl⟩ := gInt_some hg
  exact h pins s σ H x y v u Q I rx ry ⟨i, j, nx.int, ny.int, pw.scal sb (.int _)⟩
/-- products: one factor short, or both of few bits -/
def cMul (i j : Int) : Bool := decide (i.natAbs < 2 ^ 64) || decide (j.natAbs < 2 ^ 64) || decide (i.natAbs.log2 + j.natAbs.log2 < 1000000)
theorem cMul_ok {i j : Int} (h : cMul i j = true) : CMul i j ∨ CMulW i j := by
  unfold cMul at h
  simp only [Bool.or_eq_true, decide_eq_true_eq] at h
  rcases h with (h | h) | h
  · exact .inl (.inl (by omega))
  · exact .inl (.inr (by omega))
  · exact .inr h
theorem op_mulD : OpR X (binaryOp .Mult) (r2 X.K (gInt cMul fun i j => i * j)) := by
  intro pins s σ H x y v u Q I rx ry ⟨F, d, e, r, sb, nx, ny, hg, pw⟩
  obtain ⟨i, j, rfl, rfl, hcc, rfl⟩ := gInt_some hg
  rcases cMul_ok hcc with c | c
  · exact op_mul pins s σ H x y v u Q I rx ry ⟨i, j, nx.int, ny.int, c, pw.scal sb (.int _)⟩
  · exact op_mulW pins s σ H x y v u Q I rx ry ⟨i, j, nx.int, ny.int, c, pw.scal sb (.int _)⟩
def cDiv (_ j : Int) : Bool := decide (0 < j) && decide (j.natAbs.log2 < 9000)
theorem op_divD : OpR X (binaryOp .FloorDiv) (r2 X.K (gInt cDiv fun i j => i / j)) := op_int op_fdivW fun i j h => by
  unfold cDiv at h; simp only [Bool.and_eq_true, decide_eq_true_eq] at h; exact h
theorem op_modD : OpR X (binaryOp .Mod) (r2 X.K (gInt (fun _ j => decide (0 < j)) fun i j => i % j)) := op_int op_mod fun i j h => by simpa using h
def cPow (i j : Int) : Bool := decide (0 ≤ j) && decide (j ≤ 1000) && decide (i.natAbs < 2 ^ 64)
theorem op_powD : OpR X (binaryOp .Pow) (r2 X.K (gInt cPow fun i j => i ^ j.toNat)) := op_int op_pow fun i j h => by
  unfold cPow at h; simp only [Bool.and_eq_true, decide_eq_true_eq] at h
  refine ⟨h.1.1, ?_, h.2⟩
  have := h.1.2
  omega
theorem op_addI : OpR X (binaryOp .Add) (r2 X.K (gInt (fun _ _ => true) fun i j => i + j)) := op_int0 op_add
theorem op_subI : OpR X (binaryOp .Sub) (r2 X.K (gInt (fun _ _ => true) fun i j => i - j)) := op_int0 op_sub
end
end U
end

section
set_option Elab.async false
set_option linter.all false
set_option maxRecDepth 100000
namespace U
open PySem PySem.Spec PyProof.Rows L2

/-! ### D as the library's data -/
mutual
def D.py : D → PyData
  | .non => .none
  | .bl b => .bool b
  | .int i => .int i
  | .str x => .str (stO x)
  | .tup xs => .tuple (D.pyL xs)
  | .lst xs => .list (D.pyL xs)
  | .dct _ _ _ => .dict []
  | .exc _ _ => .dict []
  | .ptp _ => .dict []
  | .scr _ => .dict []
def D.pyL : List D → List PyData
  | [] => []
  | d :: ds => d.py :: D.pyL ds
end

mutual
def D.ok : D → Nat → Bool
  | .non, _ => true
  | .bl _, _ => true
  | .int _, _ => true
  | .str x, _ => x.all (· < 0x110000)
  | .tup xs, n => match n with
    | 0 => false
    | n + 1 => D.okL xs n
  | .lst xs, n => match n with
    | 0 => false
    | n + 1 => D.okL xs n
  | .dct _ _ _, _ => false
  | .exc _ _, _ => false
  | .ptp _, _ => false
  | .scr _, _ => false
def D.okL : List D → Nat → Bool
  | [], _ => true
  | d :: ds, n => d.ok n && D.okL ds n
end
mutual
theorem D.ok_lay : ∀ (d : D) (n : Nat), d.ok n = true → d.py.canLay0 = true ∧ d.py.depth ≤ n
  | .non, _, _ => ⟨by simp [D.py, PyData.canLay0], by simp [D.py, PyData.depth]⟩
  | .bl _, _, _ => ⟨by simp [D.py, PyData.canLay0], by simp [D.py, PyData.depth]⟩
  | .int _, _, _ => ⟨by simp [D.py, PyData.canLay0], by simp [D.py, PyData.depth]⟩
  | .str x, _, h => by
    refine ⟨?_, by simp [D.py, PyData.depth]⟩
    simp only [D.py, PyData.canLay0]
    show (stO x).cps.all _ = true
    simpa [D.ok] using h
  | .tup xs, 0, h => by simp [D.ok] at h
  | .lst xs, 0, h => by simp [D.ok] at h
  | .tup xs, n + 1, h => by
    obtain ⟨a, b⟩ := D.okL_lay xs n (by simpa [D.ok] using h)
    exact ⟨by simpa [D.py, PyData.canLay0] using a, by simp only [D.py, PyData.depth]; omega⟩
  | .lst xs, n + 1, h => by
    obtain ⟨a, b⟩ := D.okL_lay xs n (by simpa [D.ok] using h)
    exact ⟨by simpa [D.py, PyData.canLay0] using a, by simp only [D.py, PyData.depth]; omega⟩
  | .dct _ _ _, _, h => by simp [D.ok] at h
  | .exc _ _, _, h => by simp [D.ok] at h
  | .ptp _, _, h => by simp [D.ok] at h
  | .scr _, _, h => by simp [D.ok] at h
theorem D.okL_lay : ∀ (ds : List D) (n : Nat), D.okL ds n = true → PyData.canLayAll0 (D.pyL ds) = true ∧ PyData.depthAll (D.pyL ds) ≤ n
  | [], _, _ => ⟨by simp [D.pyL, PyData.canLayAll0], by simp [D.pyL, PyData.depthAll]⟩
  | d :: ds, n, h => by
    simp only [D.okL, Bool.and_eq_true] at h
    obtain ⟨a, b⟩ := D.ok_lay d n h.1
    obtain ⟨a', b'⟩ := D.okL_lay ds n h.2
    exact ⟨by simp [D.pyL, PyData.canLayAll0, a, a'], by simp only [D.pyL, PyData.depthAll]; omega⟩
end
theorem D.ok_shaped {d : D} (h : d.ok 60 = true) : SeqAt.shaped d.py = true := by
  obtain ⟨a, b⟩ := D.ok_lay d 60 h
  show (d.py.canLay0 && decide (d.py.depth ≤ 64)) = true
  rw [a, decide_eq_true (by omega)]; rfl
section
variable {K : PySem.W.Frag} {F H : Hp}
mutual
theorem Rep.dp (s : Sub F H) : ∀ {v : V} {d : D} {n : Nat}, Rep K F v d → d.ok n = true → Dp K H v d.py
  | _, _, _, .non, _ => by simp only [D.py]; exact .non
  | _, _, _, .bl b, _ => by simp only [D.py]; exact .bl b
  | _, _, _, .int i, _ => by simp only [D.py]; exact .int i
  | _, _, _, .str x, _ => by simp only [D.py]; exact .str _
  | _, _, 0, .tup q r, h => by simp [D.ok] at h
  | _, _, 0, .lst q r, h => by simp [D.ok] at h
  | _, _, n + 1, .tup q r, h => by simp only [D.py]; exact .tup (.inl (.inl (s _ _ q))) (RepL.dp s r (n := n) (by simpa [D.ok] using h))
  | _, _, n + 1, .lst q r, h => by simp only [D.py]; exact .lst (.inl (.inl (s _ _ q))) (RepL.dp s r (n := n) (by simpa [D.ok] using h))
  | _, _, _, .dK _ _ _, h => by simp [D.ok] at h
  | _, _, _, .dT _ _ _, h => by simp [D.ok] at h
  | _, _, _, .ptp _ _ _, h => by simp [D.ok] at h
  | _, _, _, .scr _, h => by simp [D.ok] at h
theorem RepL.dp (s : Sub F H) : ∀ {vs : List V} {ds : List D} {n : Nat}, RepL K F vs ds → D.okL ds n = true → DpAll K H vs (D.pyL ds)
  | _, _, _, .nil, _ => by simp only [D.pyL]; exact .nil
  | _, _, n, .cons h r, e => by
    simp only [D.okL, Bool.and_eq_true] at e
    simp only [D.pyL]
    exact .cons (Rep.dp s h e.1) (RepL.dp s r e.2)
end
theorem Now.dp (s : Sub F H) {v : V} {d : D} {n : Nat} (h : Now K F H v d) (e : d.ok n = true) : Dp K H v d.py := by
  rcases h with h | ⟨a, u, o, rfl, hu, ho, rfl⟩
  · exact h.dp s e
  · cases ho with
    | l r => cases n with
      | zero => simp [OV.toD, D.ok] at e
      | succ n => simp only [OV.toD, D.py]; exact .lst (.inl (.inl hu)) (RepL.dp s r (n := n) (by simpa [OV.toD, D.ok] using e))
    | dK _ _ => simp [OV.toD, D.ok] at e
    | dT _ _ => simp [OV.toD, D.ok] at e
end

/-! ### == -/
mutual
def D.eqb : D → D → Bool
  | .non, e => match e with | .non => true | _ => false
  | .bl a, e => match e with | .bl b => a == b | .int j => (if a then 1 else 0) == j | _ => false
  | .int i, e => match e with | .int j => i == j | .bl b => i == (if b then 1 else 0) | _ => false
  | .str x, e => match e with | .str y => x == y | _ => false
  | .tup xs, e => match e with | .tup ys => D.eqbL xs ys | _ => false
  | .lst xs, e => match e with | .lst ys => D.eqbL xs ys | _ => false
  | .dct _ _ _, _ => false
  | .exc _ _, _ => false
  | .ptp _, _ => false
  | .scr _, _ => false
def D.eqbL : List D → List D → Bool
  | [], es => match es with | [] => true | _ => false
  | d :: ds, es => match es with | e :: es => d.eqb e && D.eqbL ds es | [] => false
end
theorem stO_beq (x y : List Nat) : (stO x == stO y) = (x == y) := by
  by_cases h : x = y
  · subst h; simp
  · have h2 : ¬ stO x = stO y := fun e => h (by
      have := congrArg (fun z : Str => z.cps.toList) e
      simpa using this)
    rw [beq_eq_false_iff_ne.mpr h, beq_eq_false_iff_ne.mpr h2]
mutual
theorem D.eqv_py : ∀ (d e : D), PyData.eqv d.py e.py = d.eqb e
  | .non, e => by cases e <;> simp [D.py, PyData.eqv, D.eqb]
  | .bl a, e => by cases e <;> simp [D.py, PyData.eqv, D.eqb]
  | .int i, e => by cases e <;> simp [D.py, PyData.eqv, D.eqb]
  | .str x, e => by cases e <;> simp only [D.py, PyData.eqv, D.eqb]; exact stO_beq _ _
  | .tup xs, e => by cases e <;> simp only [D.py, PyData.eqv, D.eqb]; exact D.eqv_pyL _ _
  | .lst xs, e => by cases e <;> simp only [D.py, PyData.eqv, D.eqb]; exact D.eqv_pyL _ _
  | .dct _ _ _, e => by cases e <;> simp [D.py, PyData.eqv, D.eqb]
  | .exc _ _, e => by cases e <;> simp [D.py, PyData.eqv, D.eqb]
  | .ptp _, e => by cases e <;> simp [D.py, PyData.eqv, D.eqb]
  | .scr _, e => by cases e <;> simp [D.py, PyData.eqv, D.eqb]
theorem D.eqv_pyL : ∀ (ds es : List D), PyData.eqvAll (D.pyL ds) (D.pyL es) = D.eqbL ds es
  | [], es => by cases es <;> simp [D.pyL, PyData.eqvAll, D.eqbL]
  | d :: ds, [] => by simp [D.pyL, PyData.eqvAll, D.eqbL]
  | d :: ds, e :: es => by simp only [D.pyL, PyData.eqvAll, D.eqbL, D.eqv_py d e, D.eqv_pyL ds es]
end
def gEq (neg : Bool) (d e : D) : Option PR := if d.ok 60 && e.ok 60 then some (.d (.bl (neg != d.eqb e))) else none
section
variable {X : Cx}
theorem op_eqU (hu : X.A.units + 64 < cLine) : OpR X (compareOp .Eq) (r2 X.K (gEq false)) := by
  intro pins s σ H x y v u Q I rx ry ⟨F, d, e, r, sb, nx, ny, hg, pw⟩
  unfold gEq at hg
  by_cases c : (d.ok 60 && e.ok 60) = true
  · rw [if_pos c] at hg
    cases hg
    rw [Bool.and_eq_true] at c
    refine op_eqD hu pins s σ H x y v u Q I rx ry ⟨d.py, e.py, nx.dp sb c.1, ny.dp sb c.2, D.ok_shaped c.1, D.ok_shaped c.2, ?_⟩
    rw [D.eqv_py]
    have := pw.scal sb (.bl _)
    simpa using this
  · rw [if_neg c] at hg; cases hg
theorem op_neU (hu : X.A.units + 64 < cLine) : OpR X (compareOp .NotEq) (r2 X.K (gEq true)) := by
  intro pins s σ H x y v u Q I rx ry ⟨F, d, e, r, sb, nx, ny, hg, pw⟩
  unfold gEq at hg
  by_cases c : (d.ok 60 && e.ok 60) = true
  · rw [if_pos c] at hg
    cases hg
    rw [Bool.and_eq_true] at c
    refine op_neD hu pins s σ H x y v u Q I rx ry ⟨d.py, e.py, nx.dp sb c.1, ny.dp sb c.2, D.ok_shaped c.1, D.ok_shaped c.2, ?_⟩
    rw [D.eqv_py]
    have := pw.scal sb (.bl _)
    simpa using this
  · rw [if_neg c] at hg; cases hg
end

/-! ### < of data that are alike -/
mutual
def D.like : D → D → Bool
  | .non, e => match e with | .non => true | _ => false
  | .bl _, e => match e with | .bl _ => true | _ => false
  | .int _, e => match e with | .int _ => true | _ => false
  | .str _, e => match e with | .str _ => true | _ => false
  | .tup xs, e => match e with | .tup ys => D.likeL xs ys | _ => false
  | .lst xs, e => match e with | .lst ys => D.likeL xs ys | _ => false
  | .dct _ _ _, _ => false
  | .exc _ _, _ => false
  | .ptp _, _ => false
  | .scr _, _ => false
def D.likeL : List D → List D → Bool
  | [], _ => true
  | d :: ds, es => match es with | e :: es => d.like e && D.likeL ds es | [] => true
end
mutual
theorem D.like_py : ∀ (d e : D), d.like e = true → PySem.W.alike d.py e.py = true
  | .non, e, h => by cases e <;> first | (simp [D.like] at h; done) | simp [D.py, PySem.W.alike]
  | .bl a, e, h => by cases e <;> first | (simp [D.like] at h; done) | simp [D.py, PySem.W.alike]
  | .int i, e, h => by cases e <;> first | (simp [D.like] at h; done) | simp [D.py, PySem.W.alike]
  | .str x, e, h => by cases e <;> first | (simp [D.like] at h; done) | simp [D.py, PySem.W.alike]
  | .tup xs, e, h => by
    cases e <;> first | (simp [D.like] at h; done) | skip
    simp only [D.py, PySem.W.alike]; exact D.like_pyL _ _ (by simpa [D.like] using h)
  | .lst xs, e, h => by
    cases e <;> first | (simp [D.like] at h; done) | skip
    simp only [D.py, PySem.W.alike]; exact D.like_pyL _ _ (by simpa [D.like] using h)
  | .dct _ _ _, e, h => by simp [D.like] at h
  | .exc _ _, e, h => by simp [D.like] at h
  | .ptp _, e, h => by simp [D.like] at h
  | .scr _, e, h => by simp [D.like] at h
theorem D.like_pyL : ∀ (ds es : List D), D.likeL ds es = true → PySem.W.alikeAll (D.pyL ds) (D.pyL es) = true
  | [], es, _ => by simp [D.pyL, PySem.W.alikeAll]
  | d :: ds, [], _ => by simp [D.pyL, PySem.W.alikeAll]
  | d :: ds, e :: es, h => by
    simp only [D.likeL, Bool.and_eq_true] at h
    simp only [D.pyL, PySem.W.alikeAll, D.like_py d e h.1, D.like_pyL ds es h.2, Bool.and_self]
end
mutual
def D.lt : D → D → Bool
  | .non, _ => false
  | .bl a, e => match e with | .bl b => !a && b | _ => false
  | .int i, e => match e with | .int j => decide (i < j) | _ => false
  | .str x, e => match e with | .str y => decide (x < y) | _ => false
  | .tup xs, e => match e with | .tup ys => D.ltL xs ys | _ => false
  | .lst xs, e => match e with | .lst ys => D.ltL xs ys | _ => false
  | .dct _ _ _, _ => false
  | .exc _ _, _ => false
  | .ptp _, _ => false
  | .scr _, _ => false
def D.ltL : List D → List D → Bool
  | [], es => match es with | [] => false | _ => true
  | d :: ds, es => match es with | e :: es => if d.eqb e then D.ltL ds es else d.lt e | [] => false
end
theorem toks_nil_cons (x : PyData) (xs : List PyData) : PyProof.Rows.lexLt PyProof.Rows.itemOrd (PySem.W.keyToksAll []) (PySem.W.keyToksAll (x :: xs)) = true := by
  simp only [PySem.W.keyToksAll]; rfl
theorem toks_cons_nil (x : PyData) (xs : List PyData) : PyProof.Rows.lexLt PyProof.Rows.itemOrd (PySem.W.keyToksAll (x :: xs)) (PySem.W.keyToksAll []) = false := by
  simp only [PySem.W.keyToksAll]; rfl
theorem toks_nil_nil : PyProof.Rows.lexLt PyProof.Rows.itemOrd (PySem.W.keyToksAll []) (PySem.W.keyToksAll []) = false := PyProof.Rows.lex_irrefl _
mutual
theorem D.lt_py : ∀ (d e : D), d.like e = true → PySem.W.dataLt d.py e.py = d.lt e
  | .non, e, h => by cases e <;> first | (simp [D.like] at h; done) | skip; simp only [D.py, D.lt]; exact PyProof.Rows.lex_irrefl _
  | .bl a, e, h => by
    cases e <;> first | (simp [D.like] at h; done) | skip
    simp only [D.py, D.lt, PySem.W.dataLt_bool]
    rename_i b
    cases a <;> cases b <;> decide
  | .int i, e, h => by cases e <;> first | (simp [D.like] at h; done) | skip; simp only [D.py, D.lt]; exact PySem.W.dataLt_int _ _
  | .str x, e, h => by cases e <;> first | (simp [D.like] at h; done) | skip; simp only [D.py, D.lt]; rw [PySem.W.dataLt_str]
  | .tup xs, e, h => by
    cases e <;> first | (simp [D.like] at h; done) | skip
    simp only [D.py, D.lt, PySem.W.dataLt_tuple]; exact D.lt_pyL _ _ (by simpa [D.like] using h)
  | .lst xs, e, h => by
    cases e <;> first | (simp [D.like] at h; done) | skip
    simp only [D.py, D.lt, PySem.W.dataLt_list]; exact D.lt_pyL _ _ (by simpa [D.like] using h)
  | .dct _ _ _, e, h => by simp [D.like] at h
  | .exc _ _, e, h => by simp [D.like] at h
  | .ptp _, e, h => by simp [D.like] at h
  | .scr _, e, h => by simp [D.like] at h
theorem D.lt_pyL : ∀ (ds es : List D), D.likeL ds es = true → PyProof.Rows.lexLt PyProof.Rows.itemOrd (PySem.W.keyToksAll (D.pyL ds)) (PySem.W.keyToksAll (D.pyL es)) = D.ltL ds es
  | [], [], _ => by simp only [D.pyL, D.ltL]; exact toks_nil_nil
  | [], e :: es, _ => by simp only [D.pyL, D.ltL]; exact toks_nil_cons _ _
  | d :: ds, [], _ => by simp only [D.pyL, D.ltL]; exact toks_cons_nil _ _
  | d :: ds, e :: es, h => by
    simp only [D.likeL, Bool.and_eq_true] at h
    simp only [D.pyL, D.ltL]
    rw [PySem.W.dataLt_cons (D.like_py d e h.1), D.eqv_py, D.lt_pyL ds es h.2, D.lt_py d e h.1]
end
inductive CmpK where | lt | gt | le | ge
def CmpK.op : CmpK → CmpOp
  | .lt => .Lt | .gt => .Gt | .le => .LtE | .ge => .GtE
def CmpK.val (k : CmpK) (d e : D) : Bool := match k with
  | .lt => d.lt e | .gt => e.lt d | .le => !e.lt d | .ge => !d.lt e
def D.isNon : D → Bool | .non => true | _ => false
def gCmp (k : CmpK) (d e : D) : Option PR := if d.ok 60 && e.ok 60 && d.like e && e.like d && !d.isNon then some (.d (.bl (k.val d e))) else none
theorem py_ne_none {d : D} (h : d.isNon = false) : d.py ≠ .none := by
  cases d <;> first | (simp [D.isNon] at h; done) | (simp only [D.py]; intro z; cases z)
section
variable {X : Cx}
theorem op_cmpU (k : CmpK) (hu : X.A.units + 64 < cLine) : OpR X (compareOp k.op) (r2 X.K (gCmp k)) := by
  intro pins s σ H x y v u Q I rx ry ⟨F, d, e, r, sb, nx, ny, hg, pw⟩
  unfold gCmp at hg
  by_cases c : (d.ok 60 && e.ok 60 && d.like e && e.like d && !d.isNon) = true
  · rw [if_pos c] at hg
    cases hg
    simp only [Bool.and_eq_true, Bool.not_eq_true'] at c
    obtain ⟨⟨⟨⟨c1, c2⟩, c3⟩, c4⟩, c5⟩ := c
    obtain ⟨as, ra⟩ := Dp.reads I d.py x v (nx.dp sb c1) rx
    obtain ⟨bs, rb⟩ := Dp.reads I e.py y u (ny.dp sb c2) ry
    have hd := (D.ok_lay d 60 c1).2
    have hroom : X.A.units + min d.py.depth e.py.depth < cLine := by omega
    have fin : EP X pins σ Q (.bool (k.val d e)) s := ⟨.bl _, H, I, rfl, pw.scal sb (.bl _)⟩
    cases k with
    | lt => exact PySem.W.lt_data ra rb (D.like_py d e c3) (py_ne_none c5) hroom (by rw [D.lt_py d e c3]; exact fin)
    | gt => exact PySem.W.gt_data ra rb (D.like_py d e c3) (py_ne_none c5) hroom (by rw [D.lt_py e d c4]; exact fin)
    | le => exact PySem.W.le_data ra rb (D.like_py d e c3) (py_ne_none c5) hroom (by rw [D.lt_py e d c4]; exact fin)
    | ge => exact PySem.W.ge_data ra rb (D.like_py d e c3) (py_ne_none c5) hroom (by rw [D.lt_py d e c3]; exact fin)
  · rw [if_neg c] at hg; cases hg
end
end U
end

section
set_option Elab.async false
set_option linter.all false
set_option maxRecDepth 100000
namespace U
open PySem PySem.Spec PyProof.Rows L2

section
variable {K : PySem.W.Frag} {F H : Hp}
theorem Now.tupR {v : V} {ds : List D} (h : Now K F H v (.tup ds)) : Rep K F v (.tup ds) := by
  rcases h with h | ⟨a, u, o, rfl, hu, ho, e⟩
  · exact h
  · cases ho <;> cases e
end
/-! ### + -/
def lim : Nat := 1000000
theorem lim_ok {n : Nat} (h : n ≤ lim) : n ≤ sizeLine := Nat.le_trans h (by rw [sizeLine_eq]; decide)
def gAdd (d e : D) : Option PR := match d with
  | .int i => match e with | .int j => some (.d (.int (i + j))) | _ => none
  | .str x => match e with | .str y => if x.length + y.length ≤ lim then some (.d (.str (x ++ y))) else none | _ => none
  | .lst xs => match e with | .lst ys => if xs.length + ys.length ≤ lim then some (.o (.l (xs ++ ys))) else none | _ => none
  | .tup xs => match e with | .tup ys => if xs.length + ys.length ≤ lim then some (.d (.tup (xs ++ ys))) else none | _ => none
  | _ => none
theorem ite_some {c : Prop} [Decidable c] {α : Type} {a b : α} (h : (if c then some a else none) = some b) : c ∧ a = b := by
  by_cases q : c
  · rw [if_pos q] at h; exact ⟨q, Option.some.inj h⟩
  · rw [if_neg q] at h; cases h
theorem stO_append (x y : List Nat) : stO x ++ stO y = stO (x ++ y) := by
  show Str.mk (x.toArray ++ y.toArray) = _
  simp
theorem stO_length (x : List Nat) : (stO x).length = x.length := by
  show x.toArray.size = _
  simp
section
variable {X : Cx}
theorem op_addU : OpR X (binaryOp .Add) (r2 X.K gAdd) := by
  intro pins s σ H x y v u Q I rx ry ⟨F, d, e, r, sb, nx, ny, hg, pw⟩
  cases d with
  | int i =>
    cases e <;> first | (cases hg; done) | skip
    cases hg
    exact op_add pins s σ H x y v u Q I rx ry ⟨_, _, nx.int, ny.int, pw.scal sb (.int _)⟩
  | str a =>
    cases e <;> first | (cases hg; done) | skip
    rename_i b
    obtain ⟨c, rfl⟩ := ite_some hg
    refine op_add_str pins s σ H x y v u Q I rx ry ⟨_, _, nx.str, ny.str, ?_, ?_⟩
    · rw [stO_length, stO_length]; exact lim_ok c
    · rw [stO_append]; exact pw.scal sb (.str _)
  | lst as =>
    cases e <;> first | (cases hg; done) | skip
    rename_i bs
    obtain ⟨c, rfl⟩ := ite_some hg
    obtain ⟨l, xs, rfl, hx, r1⟩ := nx.lst sb
    obtain ⟨b, zs, rfl, hz, r2⟩ := ny.lst sb
    have l1 := r1.length
    have l2 := r2.length
    exact op_cat pins s σ H _ _ v u Q I rx ry ⟨l, b, xs, zs, rfl, rfl, hx, hz, by rw [l1, l2]; exact lim_ok c, pw.lst sb (r1.append r2)⟩
  | tup as =>
    cases e <;> first | (cases hg; done) | skip
    rename_i bs
    obtain ⟨c, rfl⟩ := ite_some hg
    obtain ⟨l, xs, rfl, hx, r1⟩ := nx.tup sb
    obtain ⟨b, zs, rfl, hz, r2⟩ := ny.tup sb
    have l1 := r1.length
    have l2 := r2.length
    have hl := lim_ok c
    refine op_catA pins s σ H _ _ v u Q I rx ry ⟨l, b, xs, zs, rfl, rfl, .of hx, .of hz, by omega, fun e => ?_, fun _ e => ?_, fun _ _ => pw.tup sb (r1.append r2)⟩
    · subst e
      cases r1
      exact pw.scal sb (by simpa using ny.tupR)
    · subst e
      cases r2
      exact pw.scal sb (by simpa using nx.tupR)
  | _ => cases hg
end

/-! ### * -/
def rep (k : Int) (xs : List D) : List D := (List.replicate k.toNat xs).flatten
theorem RepL.rep {K : PySem.W.Frag} {F : Hp} {vs : List V} {ds : List D} (h : RepL K F vs ds) : ∀ n : Nat, RepL K F (List.replicate n vs).flatten (List.replicate n ds).flatten
  | 0 => by simpa using RepL.nil
  | n + 1 => by simp only [List.replicate_succ, List.flatten_cons]; exact h.append (RepL.rep h n)
def gMul (d e : D) : Option PR := match d with
  | .int i => match e with | .int j => if cMul i j then some (.d (.int (i * j))) else none | _ => none
  | .lst xs => match e with | .int k => if xs.length * k.toNat ≤ lim ∧ k.natAbs < 2 ^ 63 then some (.o (.l (rep k xs))) else none | _ => none
  | .tup xs => match e with | .int k => if 2 ≤ k ∧ k ≤ 1000 ∧ xs.length ≤ 1000 ∧ 0 < xs.length then some (.d (.tup (rep k xs))) else none | _ => none
  | _ => none
section
variable {X : Cx}
theorem op_mulU : OpR X (binaryOp .Mult) (r2 X.K gMul) := by
  intro pins s σ H x y v u Q I rx ry ⟨F, d, e, r, sb, nx, ny, hg, pw⟩
  cases d with
  | int i =>
    cases e <;> first | (cases hg; done) | skip
    rename_i j
    obtain ⟨c, rfl⟩ := ite_some hg
    exact op_mulD pins s σ H x y v u Q I rx ry ⟨F, .int i, .int j, _, sb, nx, ny, by show (if cMul i j = true then _ else _) = _; rw [if_pos c], pw⟩
  | lst as =>
    cases e <;> first | (cases hg; done) | skip
    rename_i k
    obtain ⟨⟨c1, c0⟩, rfl⟩ := ite_some hg
    have c2 : -(2 ^ 63) ≤ k := by omega
    have c3 : k < 2 ^ 63 := by omega
    obtain ⟨l, xs, rfl, hx, r1⟩ := nx.lst sb
    have l1 := r1.length
    exact op_rep pins s σ H _ y v u Q I rx ry ⟨l, k, xs, rfl, ny.int, hx, c2, c3, by rw [l1]; exact lim_ok c1, pw.lst sb (RepL.rep r1 _)⟩
  | tup as =>
    cases e <;> first | (cases hg; done) | skip
    rename_i k
    obtain ⟨⟨c1, c2, c3, c4⟩, rfl⟩ := ite_some hg
    obtain ⟨l, xs, rfl, hx, r1⟩ := nx.tup sb
    have l1 := r1.length
    exact op_repT pins s σ H _ y v u Q I rx ry ⟨l, k, xs, rfl, ny.int, .of hx, fun z => by subst z; simp at l1; omega, c1, c2, by omega, pw.tup sb (RepL.rep r1 _)⟩
  | _ => cases hg
end

/-! ### in, not in -/
def D.mem (x : D) (ds : List D) : Bool := ds.any fun z => z.eqb x
def occ (x y : List Nat) : Bool := !(Builtin.Str.occurrences (stO y) (stO x) 0 (stO y).length 1).isEmpty
def gIn (neg : Bool) (d e : D) : Option PR := match e with
  | .lst ds => if d.ok 60 && D.okL ds 60 then some (.d (.bl (neg != d.mem ds))) else none
  | .tup ds => if d.ok 60 && D.okL ds 60 then some (.d (.bl (neg != d.mem ds))) else none
  | .str y => match d with | .str x => some (.d (.bl (neg != occ x y))) | _ => none
  | _ => none
theorem any_py {d : D} : ∀ ds : List D, (D.pyL ds).any (fun z => PyData.eqv z d.py) = d.mem ds
  | [] => rfl
  | e :: ds => by
    simp only [D.pyL, List.any_cons, D.eqv_py, D.mem]
    rw [any_py ds]; rfl
section
variable {X : Cx}
theorem inU_core (neg : Bool) (hu : X.A.units + 65 < cLine) : OpR X (compareOp (if neg then .NotIn else .In)) (r2 X.K (gIn neg)) := by
  intro pins s σ H x y v u Q I rx ry ⟨F, d, e, r, sb, nx, ny, hg, pw⟩
  have room : ∀ {ds : List D}, (d.ok 60 && D.okL ds 60) = true → X.A.units + 1 + min (PyData.depthAll (D.pyL ds)) d.py.depth < cLine := fun {ds} c => by
    rw [Bool.and_eq_true] at c
    have := (D.ok_lay d 60 c.1).2
    omega
  cases e with
  | lst ds =>
    obtain ⟨c, rfl⟩ := ite_some hg
    have hr := room c
    rw [Bool.and_eq_true] at c
    obtain ⟨as, ra⟩ := Dp.reads I d.py x v (nx.dp sb c.1) rx
    have hy : Dp X.K H y (.list (D.pyL ds)) := by
      obtain ⟨l, xs, rfl, hx, r1⟩ := ny.lst sb
      exact .lst (.inl (.inl hx)) (r1.dp sb c.2)
    obtain ⟨bs, rb⟩ := Dp.reads I _ y u hy ry
    have fin : EP X pins σ Q (.bool (neg != d.mem ds)) s := ⟨.bl _, H, I, rfl, pw.scal sb (.bl _)⟩
    cases neg with
    | false => exact SeqAt.in_list_reads rb ra (D.okL_lay ds 60 c.2).1 (D.ok_lay d 60 c.1).1 hr (by rw [any_py]; simpa using fin)
    | true => exact SeqAt.notIn_list_reads rb ra (D.okL_lay ds 60 c.2).1 (D.ok_lay d 60 c.1).1 hr (by rw [any_py]; simpa using fin)
  | tup ds =>
    obtain ⟨c, rfl⟩ := ite_some hg
    have hr := room c
    rw [Bool.and_eq_true] at c
    obtain ⟨as, ra⟩ := Dp.reads I d.py x v (nx.dp sb c.1) rx
    have hy : Dp X.K H y (.tuple (D.pyL ds)) := by
      obtain ⟨l, xs, rfl, hx, r1⟩ := ny.tup sb
      exact .tup (.of hx) (r1.dp sb c.2)
    obtain ⟨bs, rb⟩ := Dp.reads I _ y u hy ry
    have fin : EP X pins σ Q (.bool (neg != d.mem ds)) s := ⟨.bl _, H, I, rfl, pw.scal sb (.bl _)⟩
    cases neg with
    | false => exact SeqAt.in_tuple_reads rb ra (D.okL_lay ds 60 c.2).1 (D.ok_lay d 60 c.1).1 hr (by rw [any_py]; simpa using fin)
    | true => exact SeqAt.notIn_tuple_reads rb ra (D.okL_lay ds 60 c.2).1 (D.ok_lay d 60 c.1).1 hr (by rw [any_py]; simpa using fin)
  | str b =>
    cases d <;> first | (cases hg; done) | skip
    rename_i a
    cases hg
    cases neg with
    | false => exact op_in_str pins s σ H x y v u Q I rx ry ⟨_, _, nx.str, ny.str, by simpa [occ] using pw.scal sb (.bl _)⟩
    | true => exact L2.op_notIn_str pins s σ H x y v u Q I rx ry ⟨_, _, nx.str, ny.str, by simpa [occ] using pw.scal sb (.bl _)⟩
  | _ => cases hg
theorem op_inU (hu : X.A.units + 65 < cLine) : OpR X (compareOp .In) (r2 X.K (gIn false)) := inU_core false hu
theorem op_notInU (hu : X.A.units + 65 < cLine) : OpR X (compareOp .NotIn) (r2 X.K (gIn true)) := inU_core true hu
/-- is None, is not None -/
def gIs (neg : Bool) (d e : D) : Option PR := match e with | .non => some (.d (.bl (neg != d.isNon))) | _ => none
theorem now_non {K : PySem.W.Frag} {F H : Hp} {v : V} {d : D} (h : Now K F H v d) : decide (v = .non) = d.isNon := by
  rcases h with h | ⟨a, u, o, rfl, hu, ho, rfl⟩
  · cases h <;> rfl
  · cases ho <;> rfl
theorem op_isU : OpR X (compareOp .Is) (r2 X.K (gIs false)) := by
  intro pins s σ H x y v u Q I rx ry ⟨F, d, e, r, sb, nx, ny, hg, pw⟩
  cases e <;> first | (cases hg; done) | skip
  cases hg
  exact op_isN pins s σ H x y v u Q I rx ry ⟨ny.non, by rw [now_non nx]; simpa using pw.scal sb (.bl _)⟩
theorem op_isNotU : OpR X (compareOp .IsNot) (r2 X.K (gIs true)) := by
  intro pins s σ H x y v u Q I rx ry ⟨F, d, e, r, sb, nx, ny, hg, pw⟩
  cases e <;> first | (cases hg; done) | skip
  cases hg
  exact op_notN pins s σ H x y v u Q I rx ry ⟨ny.non, by rw [now_non nx]; simpa using pw.scal sb (.bl _)⟩
end
end U
end

section
set_option Elab.async false
set_option linter.all false
set_option maxRecDepth 100000
namespace U
open PySem PySem.Spec PyProof.Rows L2

/-! ### x[i] -/
/-- the value at a key -/
def dLook : List D → List D → D → Option D
  | k :: ks, v :: vs, d => if k.eqb d then some v else dLook ks vs d
  | _, _, _ => none
theorem atI_rep {K : PySem.W.Frag} {F : Hp} {vs : List V} {ds : List D} (h : RepL K F vs ds) {i : Int} {d : D} (e : atI ds i = some d) : ∃ v, atI vs i = some v ∧ Rep K F v d := by
  unfold atI at e ⊢
  rw [h.length]
  cases q : ixN ds.length i with
  | none => rw [q] at e; cases e
  | some j =>
    rw [q] at e
    exact h.get (i := j) e
theorem key_eqb {d e : D} {k l : Key} (h : d.key = some k) (h' : e.key = some l) : d.eqb e = decide (k = l) := by
  cases d <;> first | (cases h; done) | skip <;> (cases e <;> first | (cases h'; done) | skip)
  · cases h; cases h'
    rename_i i j
    simp only [D.eqb]
    by_cases q : i = j
    · subst q; simp
    · rw [beq_eq_false_iff_ne.mpr q, decide_eq_false (fun z => q (Sum.inl.inj z))]
  · cases h; cases h'; simp [D.eqb]
  · cases h; cases h'; simp [D.eqb]
  · cases h; cases h'
    rename_i x y
    simp only [D.eqb]
    rw [← stO_beq]
    by_cases q : stO x = stO y
    · rw [q]; simp
    · rw [beq_eq_false_iff_ne.mpr q, decide_eq_false (fun z => q (Sum.inr.inj z))]
theorem keys_cons {d : D} {ds : List D} {l : List Key} (h : keysOf (d :: ds) = some l) : ∃ k r, d.key = some k ∧ keysOf ds = some r ∧ l = k :: r := by
  unfold keysOf at h
  cases e1 : d.key with
  | none => rw [e1] at h; cases h
  | some k =>
    cases e2 : keysOf ds with
    | none => rw [e1, e2] at h; cases h
    | some r => rw [e1, e2] at h; cases h; exact ⟨k, r, rfl, rfl, rfl⟩
theorem keysT_cons {d : D} {ds : List D} {l : List (List Key)} (h : keysTOf (d :: ds) = some l) : ∃ k r, d.keyT = some k ∧ keysTOf ds = some r ∧ l = k :: r := by
  unfold keysTOf at h
  cases e1 : d.keyT with
  | none => rw [e1] at h; cases h
  | some k =>
    cases e2 : keysTOf ds with
    | none => rw [e1, e2] at h; cases h
    | some r => rw [e1, e2] at h; cases h; exact ⟨k, r, rfl, rfl, rfl⟩
theorem keys_eqb : ∀ {xs ys : List D} {k l : List Key}, keysOf xs = some k → keysOf ys = some l → D.eqbL xs ys = decide (k = l)
  | [], [], _, _, h, h' => by cases h; cases h'; rfl
  | [], y :: ys, _, _, h, h' => by
    obtain ⟨k, r, _, _, rfl⟩ := keys_cons h'
    cases h; simp [D.eqbL]
  | x :: xs, [], _, _, h, h' => by
    obtain ⟨k, r, _, _, rfl⟩ := keys_cons h
    cases h'; simp [D.eqbL]
  | x :: xs, y :: ys, _, _, h, h' => by
    obtain ⟨k, r, a1, a2, rfl⟩ := keys_cons h
    obtain ⟨l, r', b1, b2, rfl⟩ := keys_cons h'
    simp only [D.eqbL, key_eqb a1 b1, keys_eqb a2 b2, List.cons.injEq, Bool.decide_and]
theorem keyT_eqb {d e : D} {k l : List Key} (h : d.keyT = some k) (h' : e.keyT = some l) : d.eqb e = decide (k = l) := by
  cases d <;> first | (cases h; done) | skip <;> (cases e <;> first | (cases h'; done) | skip)
  simp only [D.eqb]
  exact keys_eqb h h'
theorem key_rep {K : PySem.W.Frag} {F : Hp} {v : V} {d : D} {k : Key} (h : d.key = some k) (r : Rep K F v d) : v = kV k := by
  cases r <;> first | (cases h; done) | (cases h; rfl)
theorem keys_rep {K : PySem.W.Frag} {F : Hp} : ∀ {vs : List V} {ds : List D} {k : List Key}, keysOf ds = some k → RepL K F vs ds → vs = k.map kV
  | _, _, _, h, .nil => by cases h; rfl
  | _, _, _, h, .cons a r => by
    obtain ⟨k, l, h1, h2, rfl⟩ := keys_cons h
    rw [key_rep h1 a, keys_rep h2 r]; rfl
theorem look_val {K : PySem.W.Frag} {F : Hp} {κ : Type} [DecidableEq κ] (kf : D → Option κ) (hk : ∀ {d e : D} {k l : κ}, kf d = some k → kf e = some l → d.eqb e = decide (k = l)) {d : D} {k : κ} (hd : kf d = some k) :
    ∀ {kvs : List (κ × V)} {ks ds : List D}, (ks.map kf = kvs.map (fun p => some p.1)) → RepL K F (kvs.map (·.2)) ds → (dLook ks ds d = none ∧ valV kvs k = none) ∨ ∃ e v, dLook ks ds d = some e ∧ valV kvs k = some v ∧ Rep K F v e
  | [], ks, ds, e, r => by
    cases ks with
    | nil => exact .inl ⟨by cases ds <;> rfl, rfl⟩
    | cons a b => cases e
  | (k0, v0) :: kvs, ks, ds, e, r => by
    cases ks with
    | nil => cases e
    | cons a ks =>
      simp only [List.map_cons, List.cons.injEq] at e
      obtain ⟨e1, e2⟩ := e
      have r' : RepL K F (v0 :: kvs.map (·.2)) ds := r
      cases r' with
      | cons h0 r0 =>
        have q := hk e1 hd
        by_cases c : k0 = k
        · rw [decide_eq_true c] at q
          refine .inr ⟨_, v0, ?_, ?_, h0⟩
          · simp only [dLook, q, if_true]
          · simp [valV, c]
        · rw [decide_eq_false c] at q
          have ih := look_val kf hk hd e2 r0
          have e3 : valV ((k0, v0) :: kvs) k = valV kvs k := by simp [valV, c]
          rw [e3]
          simp only [dLook, q, Bool.false_eq_true, if_false]
          exact ih
theorem keysOf_map : ∀ {ks : List D} {l : List Key}, keysOf ks = some l → ks.map D.key = l.map some
  | [], _, h => by cases h; rfl
  | d :: ds, _, h => by
    obtain ⟨k, r, h1, h2, rfl⟩ := keys_cons h
    simp only [List.map_cons, h1, keysOf_map h2]
theorem keysTOf_map : ∀ {ks : List D} {l : List (List Key)}, keysTOf ks = some l → ks.map D.keyT = l.map some
  | [], _, h => by cases h; rfl
  | d :: ds, _, h => by
    obtain ⟨k, r, h1, h2, rfl⟩ := keysT_cons h
    simp only [List.map_cons, h1, keysTOf_map h2]
/-- a dict that is read: frozen, or an owned one as it stands -/
theorem Now.dK {K : PySem.W.Frag} {F H : Hp} {v : V} {ks ds : List D} (h : Now K F H v (.dct false ks ds)) (s : Sub F H) :
    ∃ a kvs, v = .ref a ∧ Rd H a (.dK kvs) ∧ keysOf ks = some (kvs.map (·.1)) ∧ RepL K F (kvs.map (·.2)) ds := by
  rcases h with h | ⟨a, u, o, rfl, hu, ho, e⟩
  · cases h with
    | dK q k r => exact ⟨_, _, rfl, .inr ⟨_, s _ _ q⟩, k, r⟩
  · cases ho with
    | l _ => cases e
    | dK k r => cases e; exact ⟨a, _, rfl, .inl hu, k, r⟩
    | dT k r => cases e
theorem Now.dT {K : PySem.W.Frag} {F H : Hp} {v : V} {ks ds : List D} (h : Now K F H v (.dct true ks ds)) (s : Sub F H) :
    ∃ a kvs, v = .ref a ∧ Rd H a (.dT kvs) ∧ keysTOf ks = some (kvs.map (·.1)) ∧ RepL K F (kvs.map (·.2)) ds := by
  rcases h with h | ⟨a, u, o, rfl, hu, ho, e⟩
  · cases h with
    | dT q k r => exact ⟨_, _, rfl, .inr ⟨_, s _ _ q⟩, k, r⟩
  · cases ho with
    | l _ => cases e
    | dK k r => cases e
    | dT k r => cases e; exact ⟨a, _, rfl, .inl hu, k, r⟩
/-- is d a key of such a dict -/
def D.keyOk (t : Bool) (d : D) : Bool := if t then d.keyT.isSome else d.key.isSome
theorem Now.key {K : PySem.W.Frag} {F H : Hp} {v : V} {d : D} {k : Key} (h : Now K F H v d) (e : d.key = some k) : v = kV k := by
  rcases h with h | ⟨a, u, o, rfl, hu, ho, rfl⟩
  · exact key_rep e h
  · cases ho <;> cases e
theorem Now.keyT {K : PySem.W.Frag} {F H : Hp} {v : V} {d : D} {k : List Key} (s : Sub F H) (h : Now K F H v d) (e : d.keyT = some k) : ∃ b, v = .ref b ∧ H b = some (.tup (k.map kV)) := by
  cases d <;> first | (cases e; done) | skip
  obtain ⟨b, vs, rfl, hb, r⟩ := h.tup s
  rw [keys_rep e r] at hb
  exact ⟨b, rfl, hb⟩
/-- the look-up, at the heap -/
theorem dget_of {K : PySem.W.Frag} {F H : Hp} {x y : V} {t : Bool} {ks ds : List D} {d : D} (s : Sub F H) (nx : Now K F H x (.dct t ks ds)) (ny : Now K F H y d) (hk : d.keyOk t = true) :
    ∃ a, x = .ref a ∧ ((dLook ks ds d = none ∧ DGet H a y none) ∨ ∃ e v, dLook ks ds d = some e ∧ DGet H a y (some v) ∧ Rep K F v e) := by
  cases t with
  | false =>
    obtain ⟨a, kvs, rfl, hr, hks, r⟩ := nx.dK s
    have hk : d.key.isSome = true := hk
    obtain ⟨k, e⟩ := Option.isSome_iff_exists.mp hk
    refine ⟨a, rfl, ?_⟩
    have hm := keysOf_map hks
    rw [List.map_map] at hm
    rcases look_val D.key key_eqb e hm r with ⟨h1, h2⟩ | ⟨z, v, h1, h2, h3⟩
    · exact .inl ⟨h1, .inl ⟨kvs, k, hr, ny.key e, h2.symm⟩⟩
    · exact .inr ⟨z, v, h1, .inl ⟨kvs, k, hr, ny.key e, h2.symm⟩, h3⟩
  | true =>
    obtain ⟨a, kvs, rfl, hr, hks, r⟩ := nx.dT s
    have hk : d.keyT.isSome = true := hk
    obtain ⟨k, e⟩ := Option.isSome_iff_exists.mp hk
    obtain ⟨b, hy, hb⟩ := ny.keyT s e
    refine ⟨a, rfl, ?_⟩
    have hm := keysTOf_map hks
    rw [List.map_map] at hm
    rcases look_val D.keyT keyT_eqb e hm r with ⟨h1, h2⟩ | ⟨z, v, h1, h2, h3⟩
    · exact .inl ⟨h1, .inr ⟨kvs, k, b, hr, hy, hb, h2.symm⟩⟩
    · exact .inr ⟨z, v, h1, .inr ⟨kvs, k, b, hr, hy, hb, h2.symm⟩, h3⟩
def gIx (d e : D) : Option PR := match d with
  | .lst ds => match e with | .int i => (atI ds i).map .d | _ => none
  | .tup ds => match e with | .int i => (atI ds i).map .d | _ => none
  | .ptp ds => match e with | .int i => (atI ds i).map .d | _ => none
  | .str x => match e with | .int i => if x.length ≤ lim then (atI x i).map fun c => .d (.str [c]) else none | _ => none
  | .scr ns => match e with | .int i => (atI ns i).map fun n => .d (.int n) | _ => none
  | .dct t ks vs => if e.keyOk t then (dLook ks vs e).map .d else none
  | _ => none
theorem map_some {α β : Type} {f : α → β} {o : Option α} {b : β} (h : o.map f = some b) : ∃ a, o = some a ∧ f a = b := by
  cases o with
  | none => cases h
  | some a => exact ⟨a, rfl, Option.some.inj h⟩
theorem atI_map {α β : Type} (f : α → β) (xs : List α) (i : Int) : atI (xs.map f) i = (atI xs i).map f := by
  unfold atI
  rw [List.length_map]
  cases ixN xs.length i with
  | none => rfl
  | some j => simp
section
variable {X : Cx}
theorem ix_U (hu : X.A.units + 1 < cLine) : IxR X (r2 X.K gIx) := by
  intro value slice pins s σ H x y v u Q I rx ry ⟨F, d, e, r, sb, nx, ny, hg, pw⟩ hs
  cases d with
  | lst ds =>
    cases e <;> first | (cases hg; done) | skip
    obtain ⟨z, e1, rfl⟩ := map_some hg
    obtain ⟨a, vs, rfl, ha, r1⟩ := nx.lst sb
    obtain ⟨w, e2, rw'⟩ := atI_rep r1 e1
    exact ix_list value slice pins s σ H _ y v u Q I rx ry ⟨a, vs, _, w, rfl, ny.int, .of ha, e2, pw.scal sb rw'⟩ hs
  | tup ds =>
    cases e <;> first | (cases hg; done) | skip
    obtain ⟨z, e1, rfl⟩ := map_some hg
    obtain ⟨a, vs, rfl, ha, r1⟩ := nx.tup sb
    obtain ⟨w, e2, rw'⟩ := atI_rep r1 e1
    exact ix_tup value slice pins s σ H _ y v u Q I rx ry ⟨a, vs, _, w, rfl, ny.int, .of ha, e2, pw.scal sb rw'⟩ hs
  | ptp ds =>
    cases e <;> first | (cases hg; done) | skip
    obtain ⟨z, e1, rfl⟩ := map_some hg
    obtain ⟨a, o, vs, rfl, ha, _, r1, _⟩ := nx.ptp sb
    obtain ⟨w, e2, rw'⟩ := atI_rep r1 e1
    exact ix_tup value slice pins s σ H _ y v u Q I rx ry ⟨a, vs, _, w, rfl, ny.int, .inl (.inr ⟨o, ha⟩), e2, pw.scal sb rw'⟩ hs
  | str a =>
    cases e <;> first | (cases hg; done) | skip
    rename_i i
    by_cases c : a.length ≤ lim
    · have hg : (if a.length ≤ lim then (atI a i).map (fun c => PR.d (.str [c])) else none) = some r := hg
      rw [if_pos c] at hg
      obtain ⟨z, e1, rfl⟩ := map_some hg
      exact ix_str value slice pins s σ H x y v u Q I rx ry ⟨stO a, i, z, nx.str, ny.int, by rw [stO_length]; exact lim_ok c, by simpa using e1, pw.scal sb (.str [z])⟩ hs
    · have hg : (if a.length ≤ lim then (atI a i).map (fun c => PR.d (.str [c])) else none) = some r := hg
      rw [if_neg c] at hg; cases hg
  | scr ns =>
    cases e <;> first | (cases hg; done) | skip
    obtain ⟨z, e1, rfl⟩ := map_some hg
    rcases nx with h | ⟨a, w, o, rfl, hw, ho, ee⟩
    · cases h with
      | scr q => exact ix_list value slice pins s σ H _ y v u Q I rx ry ⟨_, _, _, .int z, rfl, ny.int, sb.sqL q, by rw [atI_map, e1]; rfl, pw.scal sb (.int z)⟩ hs
    · cases ho <;> cases ee
  | dct t ks vs =>
    have hg : (if e.keyOk t = true then (dLook ks vs e).map PR.d else none) = some r := hg
    by_cases c : e.keyOk t = true
    · rw [if_pos c] at hg
      obtain ⟨z, e1, rfl⟩ := map_some hg
      obtain ⟨a, rfl, h | ⟨z', w, h1, h2, h3⟩⟩ := dget_of sb nx ny c
      · rw [h.1] at e1; cases e1
      · rw [h1] at e1; cases e1
        cases rx
        exact tail_any (ops := [.ref a, u]) (dict_typeIs I h2) PySem.F.slot_dict_getitem.lookup (d_getItem hu I h2 ry fun w' s3 I3 rw' => ⟨w, H, I3, rw', pw.scal sb h3⟩) hs
    · rw [if_neg c] at hg; cases hg
  | _ => cases hg
end
end U
end

section
set_option Elab.async false
set_option linter.all false
set_option maxRecDepth 100000
namespace U
open PySem PySem.Spec PyProof.Rows L2

/-! ### x[lo:hi] -/
def cutA {α : Type} (xs : List α) (lo hi : Option Int) : List α := (xs.drop (HT.sIx xs.length 0 lo)).take (HT.sIx xs.length xs.length hi - HT.sIx xs.length 0 lo)
theorem cutA_rep {K : PySem.W.Frag} {F : Hp} {vs : List V} {ds : List D} (h : RepL K F vs ds) (lo hi : Option Int) : RepL K F (cutV vs lo hi) (cutA ds lo hi) := by
  unfold cutV cutA
  rw [h.length]
  exact (h.drop _).take _
theorem cutA_map {α β : Type} (f : α → β) (xs : List α) (lo hi : Option Int) : cutA (xs.map f) lo hi = (cutA xs lo hi).map f := by
  unfold cutA; simp [List.map_take, List.map_drop]
theorem cutA_whole {α : Type} {xs : List α} {lo hi : Option Int} (h : HT.sIx xs.length 0 lo = 0 ∧ HT.sIx xs.length xs.length hi = xs.length) : cutA xs lo hi = xs := by
  unfold cutA; rw [h.1, h.2]; simp
def gSl (lo hi : Option Int) (d : D) : Option PR := match d with
  | .lst ds => some (.o (.l (cutA ds lo hi)))
  | .tup ds => some (.d (.tup (cutA ds lo hi)))
  | .str x => if x.length ≤ lim then some (.d (.str (cutA x lo hi))) else none
  | .scr ns => some (.o (.l ((cutA ns lo hi).map .int)))
  | _ => none
def rSl (K : PySem.W.Frag) : V → Option Int → Option Int → Hp → VK → Prop := fun x lo hi H Q => ∃ F d r, Sub F H ∧ Now K F H x d ∧ gSl lo hi d = some r ∧ PW K F H r Q
section
variable {X : Cx}
theorem sl_U : SlR X (rSl X.K) := by
  intro pins s σ H x v vl vu lo hi sl Q I rx hs pl pu ⟨F, d, r, sb, nx, hg, pw⟩
  cases d with
  | lst ds =>
    cases hg
    obtain ⟨a, vs, rfl, ha, r1⟩ := nx.lst sb
    exact sl_list pins s σ H _ v vl vu lo hi sl Q I rx hs pl pu ⟨a, vs, rfl, .of ha, pw.lst sb (cutA_rep r1 lo hi)⟩
  | tup ds =>
    cases hg
    obtain ⟨a, vs, rfl, ha, r1⟩ := nx.tup sb
    refine sl_tupA pins s σ H _ v vl vu lo hi sl Q I rx hs pl pu ⟨a, vs, rfl, .of ha, fun w => ?_, fun _ => pw.tup sb (cutA_rep r1 lo hi)⟩
    rw [r1.length] at w
    refine pw.scal sb ?_
    rw [cutA_whole w]
    exact nx.tupR
  | str a =>
    obtain ⟨c, rfl⟩ := ite_some hg
    refine sl_str pins s σ H x v vl vu lo hi sl Q I rx hs pl pu ⟨stO a, nx.str, by rw [stO_length]; exact lim_ok c, ?_⟩
    have e : cutS (stO a) lo hi = stO (cutA a lo hi) := by
      unfold cutS cutA
      rw [stO_length]
    rw [e]
    exact pw.scal sb (.str _)
  | scr ns =>
    cases hg
    rcases nx with h | ⟨a, w, o, rfl, hw, ho, ee⟩
    · cases h with
      | scr q =>
        refine sl_list pins s σ H _ v vl vu lo hi sl Q I rx hs pl pu ⟨_, _, rfl, sb.sqL q, ?_⟩
        refine pw.lst sb ?_
        have e : cutV (ns.map V.int) lo hi = (cutA ns lo hi).map V.int := cutA_map V.int ns lo hi
        rw [e]
        exact RepL.of_ints _
    · cases ho <;> cases ee
  | _ => cases hg
end

/-! ### truth -/
def D.truth : D → Option Bool
  | .non => some false
  | .bl b => some b
  | .int i => some (i != 0)
  | .str x => if x.length ≤ lim then some (!x.isEmpty) else none
  | .tup xs => some (!xs.isEmpty)
  | .lst xs => some (!xs.isEmpty)
  | _ => none
theorem isEmpty_rep {K : PySem.W.Frag} {F : Hp} {vs : List V} {ds : List D} (r : RepL K F vs ds) : vs.isEmpty = ds.isEmpty := by cases r <;> rfl
theorem truth_of {K : PySem.W.Frag} {F H : Hp} {v : V} {d : D} {b : Bool} (s : Sub F H) (n : Now K F H v d) (h : d.truth = some b) : TruV K v H b := by
  cases d with
  | non => cases h; rw [n.non]; rfl
  | bl c => cases h; rw [n.bl]; rfl
  | int i => cases h; rw [n.int]; rfl
  | str x =>
    obtain ⟨c, rfl⟩ := ite_some h
    rw [n.str]
    refine ⟨by rw [stO_length]; exact lim_ok c, ?_⟩
    rw [stO_length]
    cases x with
    | nil => rfl
    | cons a r =>
      have : ((((a :: r).length : Nat) : Int) != 0) = true := by simp; omega
      rw [this]; rfl
  | tup xs =>
    cases h
    obtain ⟨a, vs, rfl, ha, r⟩ := n.tup s
    exact .inr (.inl ⟨vs, .of ha, by rw [isEmpty_rep r]⟩)
  | lst xs =>
    cases h
    obtain ⟨a, vs, rfl, ha, r⟩ := n.lst s
    exact .inl ⟨vs, .of ha, by rw [isEmpty_rep r]⟩
  | _ => cases h

/-! ### calls -/
theorem NowL.one {K : PySem.W.Frag} {F H : Hp} {xs : List V} {d : D} (h : NowL K F H xs [d]) : ∃ x, xs = [x] ∧ Now K F H x d := by
  cases h with
  | cons a r => cases r; exact ⟨_, rfl, a⟩
theorem NowL.two {K : PySem.W.Frag} {F H : Hp} {xs : List V} {d e : D} (h : NowL K F H xs [d, e]) : ∃ x y, xs = [x, y] ∧ Now K F H x d ∧ Now K F H y e := by
  cases h with
  | cons a r => cases r with
    | cons b r => cases r; exact ⟨_, _, rfl, a, b⟩
def g1 (g : D → Option PR) : List D → Option PR
  | [d] => g d
  | _ => none
theorem g1_some {g : D → Option PR} {ds : List D} {r : PR} (h : g1 g ds = some r) : ∃ d, ds = [d] ∧ g d = some r := by
  cases ds with
  | nil => cases h
  | cons d t => cases t with
    | nil => exact ⟨d, rfl, h⟩
    | cons => cases h
def gLen : D → Option PR
  | .lst ds => some (.d (.int ds.length))
  | .ptp ds => some (.d (.int ds.length))
  | .tup ds => some (.d (.int ds.length))
  | .scr ns => some (.d (.int ns.length))
  | .str x => if x.length ≤ lim then some (.d (.int x.length)) else none
  | _ => none
def gTuple : D → Option PR
  | .ptp ds => some (.d (.ptp ds))
  | .lst ds => some (.d (.tup ds))
  | .tup ds => some (.d (.tup ds))
  | .str x => if x.length ≤ lim then some (.d (.tup (x.map fun c => .str [c]))) else none
  | _ => none
def gList : D → Option PR
  | .lst ds => some (.o (.l ds))
  | .tup ds => some (.o (.l ds))
  | _ => none
def gAbs : D → Option PR
  | .int i => some (.d (.int (if i < 0 then -i else i)))
  | _ => none
def gIntC : D → Option PR
  | .int i => some (.d (.int i))
  | .bl b => some (.d (.int (if b then 1 else 0)))
  | _ => none
def blsOf : List D → Option (List Bool)
  | [] => some []
  | .bl b :: r => (blsOf r).map (b :: ·)
  | _ => none
def intsOf : List D → Option (List Int)
  | [] => some []
  | .int b :: r => (intsOf r).map (b :: ·)
  | _ => none
theorem bls_rep {K : PySem.W.Frag} {F : Hp} : ∀ {vs : List V} {ds : List D} {bs : List Bool}, RepL K F vs ds → blsOf ds = some bs → vs = bs.map V.bl
  | _, _, _, .nil, e => by cases e; rfl
  | _, _, _, .cons h r, e => by
    cases h <;> first | (cases e; done) | skip
    obtain ⟨t, e1, rfl⟩ := map_some e
    rw [bls_rep r e1]; rfl
theorem ints_rep {K : PySem.W.Frag} {F : Hp} : ∀ {vs : List V} {ds : List D} {bs : List Int}, RepL K F vs ds → U.intsOf ds = some bs → vs = bs.map V.int
  | _, _, _, .nil, e => by cases e; rfl
  | _, _, _, .cons h r, e => by
    cases h <;> first | (cases e; done) | skip
    obtain ⟨t, e1, rfl⟩ := map_some e
    rw [ints_rep r e1]; rfl
def gAny : D → Option PR
  | .lst ds => (blsOf ds).map fun bs => .d (.bl (bs.any id))
  | _ => none
def gAll : D → Option PR
  | .lst ds => (blsOf ds).map fun bs => .d (.bl (bs.all id))
  | _ => none
def gSum : D → Option PR
  | .lst ds => (U.intsOf ds).map fun bs => .d (.int bs.sum)
  | _ => none
section
variable {X : Cx}
theorem cr_lenU : CallR X (.builtin "len") (rC X.K (g1 gLen)) := by
  intro pins s σ H xs us Q I rs ⟨F, ds, r, sb, n, hg, pw⟩
  obtain ⟨d, rfl, hg⟩ := g1_some hg
  obtain ⟨x, rfl, n1⟩ := n.one
  cases d with
  | lst ds =>
    cases hg
    obtain ⟨a, vs, rfl, ha, r1⟩ := n1.lst sb
    exact call_len_seq pins s σ H _ us Q I rs ⟨a, vs, rfl, .inl (.of ha), by rw [r1.length]; exact pw.scal sb (.int _)⟩
  | tup ds =>
    cases hg
    obtain ⟨a, vs, rfl, ha, r1⟩ := n1.tup sb
    exact call_len_seq pins s σ H _ us Q I rs ⟨a, vs, rfl, .inr (.of ha), by rw [r1.length]; exact pw.scal sb (.int _)⟩
  | ptp ds =>
    cases hg
    obtain ⟨a, o, vs, rfl, ha, _, r1, _⟩ := n1.ptp sb
    exact call_len_seq pins s σ H _ us Q I rs ⟨a, vs, rfl, .inr (.inl (.inr ⟨o, ha⟩)), by rw [r1.length]; exact pw.scal sb (.int _)⟩
  | scr ns =>
    cases hg
    rcases n1 with h | ⟨a, w, o, rfl, hw, ho, ee⟩
    · cases h with
      | scr q => exact call_len_seq pins s σ H _ us Q I rs ⟨_, _, rfl, .inl (sb.sqL q), by rw [List.length_map]; exact pw.scal sb (.int _)⟩
    · cases ho <;> cases ee
  | str x =>
    obtain ⟨c, rfl⟩ := ite_some hg
    have e := n1.str
    subst e
    exact call_len_str pins s σ H _ us Q I rs ⟨stO x, rfl, by rw [stO_length]; exact lim_ok c, by rw [stO_length]; exact pw.scal sb (.int _)⟩
  | _ => cases hg
theorem cr_listU : CallR X (.type "list") (rC X.K (g1 gList)) := by
  intro pins s σ H xs us Q I rs ⟨F, ds, r, sb, n, hg, pw⟩
  obtain ⟨d, rfl, hg⟩ := g1_some hg
  obtain ⟨x, rfl, n1⟩ := n.one
  cases d with
  | lst ds =>
    cases hg
    obtain ⟨a, vs, rfl, ha, r1⟩ := n1.lst sb
    exact call_list_of pins s σ H _ us Q I rs ⟨a, vs, rfl, .inl (.of ha), pw.lst sb r1⟩
  | tup ds =>
    cases hg
    obtain ⟨a, vs, rfl, ha, r1⟩ := n1.tup sb
    exact call_list_of pins s σ H _ us Q I rs ⟨a, vs, rfl, .inr (.of ha), pw.lst sb r1⟩
  | _ => cases hg
theorem vals_at : ∀ {xs : List V} {us : List Value}, xs.length = us.length → (∀ (i : Nat) (x : V) (u : Value), xs[i]? = some x → us[i]? = some u → RelV x u) → Vals xs us
  | [], [], _, _ => .nil
  | [], _ :: _, h, _ => by simp at h
  | _ :: _, [], h, _ => by simp at h
  | x :: xs, u :: us, h, f => .cons (f 0 x u rfl rfl) (vals_at (by simpa using h) fun i y w e1 e2 => f (i + 1) y w (by simpa using e1) (by simpa using e2))
theorem signs_rep {K : PySem.W.Frag} {F : Hp} : ∀ x : List Nat, RepL K F (x.map fun c => V.str (stO [c])) (x.map fun c => D.str [c])
  | [] => .nil
  | c :: x => .cons (.str [c]) (signs_rep x)
theorem cr_tupleU (hc : X.calm = true) : CallR X (.type "tuple") (rC X.K (g1 gTuple)) := by
  intro pins s σ H xs us Q I rs ⟨F, ds, r, sb, n, hg, pw⟩
  obtain ⟨d, rfl, hg⟩ := g1_some hg
  obtain ⟨x, rfl, n1⟩ := n.one
  cases d with
  | lst ds =>
    cases hg
    obtain ⟨a, vs, rfl, ha, r1⟩ := n1.lst sb
    exact call_tuple_of pins s σ H _ us Q I rs ⟨a, vs, rfl, .inl ⟨.of ha, pw.tup sb r1⟩⟩
  | tup ds =>
    cases hg
    obtain ⟨a, vs, rfl, ha, r1⟩ := n1.tup sb
    exact call_tuple_of pins s σ H _ us Q I rs ⟨a, vs, rfl, .inr ⟨.of ha, pw.scal sb n1.tupR⟩⟩
  | ptp ds =>
    cases hg
    obtain ⟨a, o, vs, rfl, ha, _, r1, rr⟩ := n1.ptp sb
    exact call_tuple_of pins s σ H _ us Q I rs ⟨a, vs, rfl, .inr ⟨.inl (.inr ⟨o, ha⟩), pw.scal sb rr⟩⟩
  | str x =>
    obtain ⟨c, rfl⟩ := ite_some hg
    have e := n1.str
    subst e
    obtain ⟨u, rfl, t, rfl⟩ := vals1 rs
    have hl : (stO x).cps.size ≤ sizeLine := by
      show x.toArray.size ≤ _
      rw [List.size_toArray]; exact lim_ok c
    refine call_tuple_str (I.ok.hd hc) (stO x) t (fun h' tk acc kp ac => ?_) hl
    have hv : Vals (x.map fun c => V.str (stO [c])) acc.toList := by
      refine vals_at ?_ fun i w u e1 e2 => ?_
      · have e := ac.1
        have e' : acc.size = x.length := by rw [e]; show x.toArray.size = _; simp
        rw [List.length_map, ← e', ← Array.length_toList]
      · obtain ⟨c, u', h1, h2⟩ := ac.2 i u (by simpa using e2)
        rw [List.getElem?_map] at e1
        obtain ⟨c', e3, rfl⟩ := map_some e1
        have h1' : x[i]? = some c := by simpa using h1
        rw [h1'] at e3
        cases e3
        exact ⟨u', h2⟩
    have I1 : Inv X pins σ H { s with heap := h' } := I.kept (t' := s.toks) kp
    have I2 : Inv X pins σ (upd H h'.objs.size (.tup (x.map fun c => V.str (stO [c])))) { s with heap := h'.push { cls := .type "tuple", data := .seq acc }, toks := tk } :=
      I1.laid (t' := tk) (fun b o e => Heap.get?_push_of_some _ e) (Nat.le_refl _) (show ObjOk X.prog X.w _ _ _ (.tup _) from ⟨by rw [List.length_map]; exact lim_ok c, acc.toList, hv, by simpa using IsTup.new _ _⟩)
    exact ⟨.ref h'.objs.size, _, I2, rfl, pw.tup sb (signs_rep x) _ (I1.hok.fresh (Nat.le_refl _))⟩
  | _ => cases hg
theorem cr_absU : CallR X (.builtin "abs") (rC X.K (g1 gAbs)) := by
  intro pins s σ H xs us Q I rs ⟨F, ds, r, sb, n, hg, pw⟩
  obtain ⟨d, rfl, hg⟩ := g1_some hg
  obtain ⟨x, rfl, n1⟩ := n.one
  cases d <;> first | (cases hg; done) | skip
  cases hg
  have e := n1.int
  subst e
  exact call_abs pins s σ H _ us Q I rs ⟨_, rfl, pw.scal sb (.int _)⟩
theorem cr_intU : CallR X (.type "int") (rC X.K (g1 gIntC)) := by
  intro pins s σ H xs us Q I rs ⟨F, ds, r, sb, n, hg, pw⟩
  obtain ⟨d, rfl, hg⟩ := g1_some hg
  obtain ⟨x, rfl, n1⟩ := n.one
  cases d <;> first | (cases hg; done) | skip
  · cases hg
    have e := n1.bl
    subst e
    exact call_int1 pins s σ H _ us Q I rs (.inr ⟨_, rfl, pw.scal sb (.int _)⟩)
  · cases hg
    have e := n1.int
    subst e
    exact call_int1 pins s σ H _ us Q I rs (.inl ⟨_, rfl, pw.scal sb (.int _)⟩)
theorem cr_anyU (hc : X.calm = true) : CallR X (.builtin "any") (rC X.K (g1 gAny)) := by
  intro pins s σ H xs us Q I rs ⟨F, ds, r, sb, n, hg, pw⟩
  obtain ⟨d, rfl, hg⟩ := g1_some hg
  obtain ⟨x, rfl, n1⟩ := n.one
  cases d <;> first | (cases hg; done) | skip
  obtain ⟨bs, e1, rfl⟩ := map_some hg
  obtain ⟨a, vs, rfl, ha, r1⟩ := n1.lst sb
  rw [bls_rep r1 e1] at ha
  exact cr_any hc pins s σ H _ us Q I rs ⟨a, bs, rfl, .of ha, pw.scal sb (.bl _)⟩
theorem cr_allU (hc : X.calm = true) : CallR X (.builtin "all") (rC X.K (g1 gAll)) := by
  intro pins s σ H xs us Q I rs ⟨F, ds, r, sb, n, hg, pw⟩
  obtain ⟨d, rfl, hg⟩ := g1_some hg
  obtain ⟨x, rfl, n1⟩ := n.one
  cases d <;> first | (cases hg; done) | skip
  obtain ⟨bs, e1, rfl⟩ := map_some hg
  obtain ⟨a, vs, rfl, ha, r1⟩ := n1.lst sb
  rw [bls_rep r1 e1] at ha
  exact cr_all hc pins s σ H _ us Q I rs ⟨a, bs, rfl, .of ha, pw.scal sb (.bl _)⟩
theorem cr_sumU (hc : X.calm = true) : CallR X (.builtin "sum") (rC X.K (g1 gSum)) := by
  intro pins s σ H xs us Q I rs ⟨F, ds, r, sb, n, hg, pw⟩
  obtain ⟨d, rfl, hg⟩ := g1_some hg
  obtain ⟨x, rfl, n1⟩ := n.one
  cases d <;> first | (cases hg; done) | skip
  obtain ⟨bs, e1, rfl⟩ := map_some hg
  obtain ⟨a, vs, rfl, ha, r1⟩ := n1.lst sb
  rw [ints_rep r1 e1] at ha
  exact cr_sum hc pins s σ H _ us Q I rs ⟨a, bs, rfl, .of ha, pw.scal sb (.int _)⟩
end
end U
end

section
set_option Elab.async false
set_option linter.all false
set_option maxRecDepth 100000
namespace U
open PySem PySem.Spec PyProof.Rows L2

/-! ### the reading of an expression -/
def RX (K : PySem.W.Frag) (M : MS) (σ : St) (Q : VK) (r : PR) (τ' : T) (F' H' : Hp) : Prop := match r with
  | .d z => ∀ v, Rep K F' v z → Q v H'
  | .o z => ∀ v, OwnR K M F' H' σ τ' v z → Q v H'
def rdX (K : PySem.W.Frag) (px : PX) (W : WX) (f : T → Rs PR) : TE := fun σ H Q => ∃ M F τ, SRel K M F H σ τ ∧ Post K px W M F H σ (f τ) (RX K M σ Q)
def JX (px : PX) (W : WX) (X : Cx) (e : Expr) (f : T → Rs PR) : Prop := PE X e (rdX X.K px W f)
/-- the value, frozen -/
def frz (f : T → Rs PR) : T → Rs D := fun τ => (f τ).bind fun r τ' => .ok r.toD τ'
section
variable {K : PySem.W.Frag} {px : PX} {W : WX} {M : MS} {F H F1 H1 : Hp} {σ : St} {τ : T}
/-- a primitive's wish, from what is wanted behind it -/
theorem Post.pw {r : PR} {Q : VK} (s : SRel K M F H σ τ) (p : Post K px W M F H σ (.ok r τ) (RX K M σ Q)) : PW K F H r Q := by
  cases r with
  | d z => exact fun v F' H' n rep => p F' H' n.grow (n.srel s) v rep
  | o z => exact fun a u F' H' n hp ho => p F' (upd H' a u) (n.grow.trans (grow_alloc hp)) ((n.srel s).alloc hp) _ ((n.srel s).fresh_own hp ho)
theorem Post.pw' {m : Rs PR} {r : PR} {Q : VK} (s : SRel K M F H σ τ) (p : Post K px W M F H σ m (RX K M σ Q)) (e : m = .ok r τ) : PW K F H r Q := by
  subst e; exact p.pw s
/-- an owned object is sealed -/
theorem sealing {a : Addr} {u o : HO} (s : SRel K M F H σ τ) (hu : H a = some u) (hf : F a = none) (hm : M.m a) (hx : ∀ (i : Nat) (sl : Sl), τ[i]? = some sl → sl.mut ≠ none → σ[i]? ≠ some (some (V.ref a))) :
    Grow M F H (upd F a o) (upd H a o) ∧ SRel K M (upd F a o) (upd H a o) σ τ := by
  refine ⟨⟨fun b e => ?_, Sub.upd hf, fun b w e m => ?_, fun b e n m => ?_⟩, s.len, fun b e => ?_, fun b w e => ?_, fun i d e => ?_, fun i sl ov e1 e2 => ?_, s.apart, s.io⟩
  · by_cases q : b = a
    · rw [q, upd_same] at e; cases e
    · rw [upd_ne q] at e; exact e
  · rw [upd_ne (fun q => m (by rw [q]; exact hm))]; exact e
  · rw [upd_ne (fun q => m (by rw [q]; exact hm))]; exact e
  · by_cases q : b = a
    · rw [q]; exact hm
    · rw [upd_ne q] at e; exact s.up b e
  · by_cases q : b = a
    · rw [q, upd_same] at e ⊢; exact e
    · rw [upd_ne q] at e ⊢; exact s.sub b w e
  · obtain ⟨v, e1, r⟩ := s.val i d e
    exact ⟨v, e1, r.mono (Sub.upd hf)⟩
  · obtain ⟨b, w, h1, h2, h3, h4, h5⟩ := s.own i sl ov e1 e2
    have ne : b ≠ a := fun q => hx i sl e1 (by rw [e2]; exact fun z => nomatch z) (q ▸ h1)
    exact ⟨b, w, h1, by rw [upd_ne ne]; exact h2, by rw [upd_ne ne]; exact h3, h4, h5.mono (Sub.upd hf)⟩
theorem upd_id {H : Hp} {a : Addr} {u : HO} (h : H a = some u) : upd H a u = H := by
  funext b
  by_cases q : b = a
  · rw [q, upd_same, h]
  · rw [upd_ne q]
end
/-- a value may be locked where it comes -/
def Lk (Q : VK) : VK := fun v H => Q v H ∨ ∃ a u, v = .ref a ∧ H a = some u ∧ Mut (some u) ∧ ∀ od, Q v (upd H a (.frz od u))
theorem pe_lock {X : Cx} {e : Expr} {t : TE} (h : PE X e t) : PE X e (fun σ H Q => t σ H (Lk Q)) := by
  refine ⟨fun pins s σ H Q I q => ?_⟩
  refine thn (h.run pins s σ H _ I q) fun v s1 ⟨x, H1, I1, r1, q1⟩ => ?_
  rcases q1 with q1 | ⟨a, u, rfl, ha, mu, q1⟩
  · exact ⟨x, H1, I1, r1, q1⟩
  · obtain ⟨od, I2⟩ := I1.lock ha mu
    exact ⟨_, _, I2, r1, q1 od⟩
section
variable {K : PySem.W.Frag} {px : PX} {W : WX} {M : MS} {F H F1 H1 : Hp} {σ : St} {τ : T}
theorem own_lk {Q : VK} {v : V} {o : OV} (s : SRel K M F H σ τ) (r : OwnR K M F H σ τ v o) (h : ∀ F' H', Grow M F H F' H' → SRel K M F' H' σ τ → Rep K F' v o.toD → Q v H') : Lk Q v H := by
  obtain ⟨a, u, rfl, hu, hf, hm, ho, hx⟩ := r
  cases ho with
  | @l ds vs rl =>
    left
    obtain ⟨g, s'⟩ := sealing (o := .lst vs) s hu hf hm hx
    rw [upd_id hu] at g s'
    exact h _ _ g s' (.lst upd_same (rl.mono (Sub.upd hf)))
  | @dK kvs ks ds k rl =>
    refine .inr ⟨a, _, rfl, hu, trivial, fun od => ?_⟩
    obtain ⟨g, s'⟩ := sealing (o := .frz od (.dK kvs)) s hu hf hm hx
    exact h _ _ g s' (.dK upd_same k (rl.mono (Sub.upd hf)))
  | @dT kvs ks ds k rl =>
    refine .inr ⟨a, _, rfl, hu, trivial, fun od => ?_⟩
    obtain ⟨g, s'⟩ := sealing (o := .frz od (.dT kvs)) s hu hf hm hx
    exact h _ _ g s' (.dT upd_same k (rl.mono (Sub.upd hf)))
end
theorem JX.frz {px : PX} {W : WX} {X : Cx} {e : Expr} {f : T → Rs PR} (h : JX px W X e f) : JE px W X e (frz f) := by
  refine PE.imp (pe_lock h) fun σ H Q ⟨M, F, τ, s, p⟩ => ⟨M, F, τ, s, p.bind.imp fun r τ1 F1 H1 g s1 q => ?_⟩
  cases r with
  | d z => exact fun v rv => .inl (q F1 H1 .refl s1 v rv)
  | o z => exact fun v rv => own_lk s1 rv fun F' H' g' s' rw' => q F' H' g' s' v rw'
/-- a frozen value as a value -/
theorem JE.x {px : PX} {W : WX} {X : Cx} {e : Expr} {f : T → Rs D} (h : JE px W X e f) : JX px W X e (fun τ => (f τ).bind fun z τ' => .ok (.d z) τ') :=
  PE.imp h fun σ H Q ⟨M, F, τ, s, p⟩ => ⟨M, F, τ, s, p.bind.imp fun r τ1 F1 H1 g s1 q v rv => q F1 H1 .refl s1 v rv⟩

/-! ### constants, names -/
section
variable {px : PX} {W : WX} {X : Cx} {pos : Pos} {k : Nat}
def sC (d : D) : T → Rs PR := fun τ => .ok (.d d) τ
theorem jx_of_tC {e : Expr} {v : V} {d : D} (h : PE X e (tC v)) (r : ∀ F, Rep X.K F v d) : JX px W X e (sC d) :=
  PE.imp h fun σ H Q ⟨M, F, τ, s, p⟩ => p F H .refl s v (r F)
theorem jx_int {i : Int} : JX px W X (.Constant (.int i) k pos) (sC (.int i)) := jx_of_tC pe_int fun _ => .int i
theorem jx_bl {b : Bool} : JX px W X (.Constant (.bool b) k pos) (sC (.bl b)) := jx_of_tC pe_bl fun _ => .bl b
theorem jx_non : JX px W X (.Constant .none k pos) (sC .non) := jx_of_tC pe_non fun _ => .non
theorem jx_str {x : List Nat} : JX px W X (.Constant (.str (stO x)) k pos) (sC (.str x)) := jx_of_tC pe_str fun _ => .str x
/-- a slot's name: an owned object is sealed by being read -/
def sVar (i : Nat) : T → Rs PR := fun τ => match τ[i]? with
  | some (.val d) => .ok (.d d) τ
  | some (.own o) => .ok (.d o.toD) (τ.set i (.val o.toD))
  | _ => .stuck
theorem SRel.sealed {K : PySem.W.Frag} {M : MS} {F' H' : Hp} {σ : St} {τ : T} {i : Nat} {o : OV} {a : Addr} {d : D} (s : SRel K M F' H' σ (τ.set i .no)) (hv : σ[i]? = some (some (V.ref a))) (r : Rep K F' (V.ref a) d) : SRel K M F' H' σ (τ.set i (.val d)) := by
  have ne : ∀ {j : Nat} {sl : Sl}, (τ.set i (.val d))[j]? = some sl → j ≠ i → (τ.set i .no)[j]? = some sl := fun {j sl} e n => by
    rw [List.getElem?_set_ne (Ne.symm n)] at e ⊢; exact e
  have at_ : ∀ {j : Nat} {sl : Sl}, (τ.set i (.val d))[j]? = some sl → j = i → sl = .val d := fun {j sl} e n => by
    subst n
    rw [List.getElem?_set] at e
    split at e
    · split at e
      · exact (Option.some.inj e).symm
      · cases e
    · rename_i h; exact absurd rfl h
  refine ⟨by simpa using s.len, s.up, s.sub, fun j d' e => ?_, fun j sl ov e1 e2 => ?_, fun j k sl tl b e1 m1 e2 m2 => ?_, fun j o' e => ?_⟩
  · by_cases n : j = i
    · have := at_ e n
      cases this
      exact ⟨_, n ▸ hv, r⟩
    · exact s.val j d' (ne e n)
  · by_cases n : j = i
    · have := at_ e1 n
      subst this
      cases e2
    · exact s.own j sl ov (ne e1 n) e2
  · have n1 : j ≠ i := fun n => by have := at_ e1 n; subst this; exact m1 rfl
    have n2 : k ≠ i := fun n => by have := at_ e2 n; subst this; exact m2 rfl
    exact s.apart j k sl tl b (ne e1 n1) m1 (ne e2 n2) m2
  · exact s.io j o' (ne e fun n => by have := at_ e n; cases this)
theorem SRel.drop {K : PySem.W.Frag} {M : MS} {F H : Hp} {σ : St} {τ : T} (s : SRel K M F H σ τ) (i : Nat) : SRel K M F H σ (τ.set i .no) := by
  have ne : ∀ {j : Nat} {sl : Sl}, (τ.set i .no)[j]? = some sl → sl ≠ .no → τ[j]? = some sl := fun {j sl} e n => by
    by_cases q : i = j
    · subst q
      rw [List.getElem?_set] at e
      simp only [if_true] at e
      split at e
      · exact absurd (Option.some.inj e).symm n
      · cases e
    · rw [List.getElem?_set_ne q] at e; exact e
  refine ⟨by simpa using s.len, s.up, s.sub, fun j d e => s.val j d (ne e (fun z => nomatch z)), fun j sl ov e1 e2 => s.own j sl ov (ne e1 (fun z => by subst z; cases e2)) e2, fun j k sl tl b e1 m1 e2 m2 => s.apart j k sl tl b (ne e1 (fun z => by subst z; exact m1 rfl)) m1 (ne e2 (fun z => by subst z; exact m2 rfl)) m2, fun j o e => s.io j o (ne e (fun z => nomatch z))⟩
theorem SRel.own_at {K : PySem.W.Frag} {M : MS} {F H : Hp} {σ : St} {τ : T} {i : Nat} {sl : Sl} {o : OV} (s : SRel K M F H σ τ) (e : τ[i]? = some sl) (m : sl.mut = some o) :
    ∃ a, σ[i]? = some (some (V.ref a)) ∧ OwnR K M F H σ (τ.set i .no) (.ref a) o := by
  obtain ⟨a, u, h1, h2, h3, h4, h5⟩ := s.own i sl o e m
  refine ⟨a, h1, a, u, rfl, h2, h3, h4, h5, fun j tl e2 m2 z => ?_⟩
  have hj : i ≠ j := fun q => by
    subst q
    rw [List.getElem?_set] at e2
    simp only [if_true] at e2
    split at e2
    · have := Option.some.inj e2
      subst this
      exact m2 rfl
    · cases e2
  rw [List.getElem?_set_ne hj] at e2
  exact hj (s.apart i j sl tl a e (by rw [m]; exact fun z => nomatch z) e2 m2 h1 z)
theorem jx_var {i : Nat} {x : Str} (h : PE X (.Name x pos) (tVar i)) : JX px W X (.Name x pos) (sVar i) := by
  refine PE.imp (pe_lock h) fun σ H Q ⟨M, F, τ, s, p⟩ => ?_
  unfold sVar at p
  cases e : τ[i]? with
  | none => rw [e] at p; exact p.elim
  | some sl =>
    rw [e] at p
    cases sl with
    | no => exact p.elim
    | io o => exact p.elim
    | val d =>
      obtain ⟨v, hv, r⟩ := s.val i d e
      exact ⟨v, hv, .inl (p F H .refl s v r)⟩
    | own o =>
      obtain ⟨a, hv, ow⟩ := s.own_at e rfl
      refine ⟨_, hv, own_lk (s.drop i) ow fun F' H' g s' rw' => ?_⟩
      exact p F' H' g (s'.sealed (o := o) hv rw') _ rw'
end
end U
end

section
set_option Elab.async false
set_option linter.all false
set_option maxRecDepth 100000
namespace U
open PySem PySem.Spec PyProof.Rows L2

/-! ### operands: frozen values, or owned objects looked at where they stand -/
inductive BR where
  | d (z : D)
  | sl (i : Nat)
def Sl.seen : Sl → Option D
  | .val d => some d
  | .own o => some o.toD
  | .io o => some o.toD
  | .no => none
def BR.at (b : BR) (τ : T) : Option D := match b with
  | .d z => some z
  | .sl i => match τ[i]? with
    | some s => s.seen
    | none => none
def BRep (K : PySem.W.Frag) (F : Hp) (σ : St) (v : V) (b : BR) : Prop := match b with
  | .d z => Rep K F v z
  | .sl i => σ[i]? = some (some v)
def rdB (K : PySem.W.Frag) (px : PX) (W : WX) (f : T → Rs BR) : TE := fun σ H Q => ∃ M F τ, SRel K M F H σ τ ∧ Post K px W M F H σ (f τ) fun b _ F' H' => ∀ v, BRep K F' σ v b → Q v H'
def JB (px : PX) (W : WX) (X : Cx) (e : Expr) (f : T → Rs BR) : Prop := PE X e (rdB X.K px W f)
section
variable {K : PySem.W.Frag} {px : PX} {W : WX} {M : MS} {F H F1 H1 : Hp} {σ : St} {τ : T}
theorem BRep.mono {v : V} {b : BR} (h : BRep K F σ v b) (e : Sub F F1) : BRep K F1 σ v b := by
  cases b with
  | d z => exact Rep.mono e h
  | sl i => exact h
theorem BRep.now {v : V} {b : BR} {z : D} (s : SRel K M F H σ τ) (h : BRep K F σ v b) (e : b.at τ = some z) : Now K F H v z := by
  cases b with
  | d y => cases e; exact .inl h
  | sl i =>
    have hv : σ[i]? = some (some v) := h
    have own : ∀ (sl : Sl) (o : OV), τ[i]? = some sl → sl.mut = some o → Now K F H v o.toD := fun sl o q e1 => by
      obtain ⟨a, u, h1, h2, h3, h4, h5⟩ := s.own i sl o q e1
      rw [h1] at hv
      cases hv
      exact .inr ⟨a, u, o, rfl, h2, h5, rfl⟩
    have e : (match τ[i]? with
      | some s => s.seen
      | none => none) = some z := e
    cases q : τ[i]? with
    | none => rw [q] at e; cases e
    | some sl =>
      rw [q] at e
      cases sl with
      | no => cases e
      | val d =>
        cases e
        obtain ⟨w, h1, r⟩ := s.val i _ q
        rw [h1] at hv
        cases hv
        exact .inl r
      | own o => cases e; exact own _ o q rfl
      | io o => cases e; exact own _ o q rfl
theorem rdB_bind {α : Type} {fa : T → Rs BR} {k : BR → T → Rs α} {R : α → T → Hp → Hp → Prop} {Q : VK} (s : SRel K M F H σ τ) (p : Post K px W M F H σ ((fa τ).bind k) R)
    (h : ∀ b τ1 F1 H1 v, Grow M F H F1 H1 → SRel K M F1 H1 σ τ1 → BRep K F1 σ v b → Post K px W M F1 H1 σ (k b τ1) R → Q v H1) : rdB K px W fa σ H Q :=
  ⟨M, F, τ, s, p.bind.imp fun d τ1 F1 H1 g s1 q v r => h d τ1 F1 H1 v g s1 r q⟩
end
def toB (f : T → Rs D) : T → Rs BR := fun τ => (f τ).bind fun z τ' => .ok (.d z) τ'
theorem JE.b {px : PX} {W : WX} {X : Cx} {e : Expr} {f : T → Rs D} (h : JE px W X e f) : JB px W X e (toB f) :=
  PE.imp h fun σ H Q ⟨M, F, τ, s, p⟩ => ⟨M, F, τ, s, p.bind.imp fun r τ1 F1 H1 g s1 q v rv => q F1 H1 .refl s1 v rv⟩
def sPk (i : Nat) : T → Rs BR := fun τ => match τ[i]? with
  | some s => if s.mut.isSome then .ok (.sl i) τ else .stuck
  | none => .stuck
theorem jb_pk {px : PX} {W : WX} {X : Cx} {pos : Pos} {i : Nat} {x : Str} (h : PE X (.Name x pos) (tVar i)) : JB px W X (.Name x pos) (sPk i) := by
  refine PE.imp h fun σ H Q ⟨M, F, τ, s, p⟩ => ?_
  unfold sPk at p
  cases e : τ[i]? with
  | none => rw [e] at p; exact p.elim
  | some sl =>
    rw [e] at p
    cases q : sl.mut with
    | none => simp [q] at p; exact p.elim
    | some o =>
      simp only [q, Option.isSome_some, if_true] at p
      obtain ⟨a, u, h1, _⟩ := s.own i sl o e q
      exact ⟨_, h1, p F H .refl s _ h1⟩

/-- a variable as an operand -/
def sRd (i : Nat) : T → Rs BR := fun τ => match τ[i]? with
  | some (.val d) => .ok (.d d) τ
  | some (.own _) => .ok (.sl i) τ
  | some (.io _) => .ok (.sl i) τ
  | _ => .stuck
theorem jb_rd {px : PX} {W : WX} {X : Cx} {pos : Pos} {i : Nat} {x : Str} (h : PE X (.Name x pos) (tVar i)) : JB px W X (.Name x pos) (sRd i) := by
  refine PE.imp h fun σ H Q ⟨M, F, τ, s, p⟩ => ?_
  unfold sRd at p
  cases e : τ[i]? with
  | none => rw [e] at p; exact p.elim
  | some sl =>
    rw [e] at p
    cases sl with
    | no => exact p.elim
    | val d => obtain ⟨v, h1, r⟩ := s.val i d e; exact ⟨_, h1, p F H .refl s _ r⟩
    | own o => obtain ⟨a, u, h1, _⟩ := s.own i _ o e rfl; exact ⟨_, h1, p F H .refl s _ h1⟩
    | io o => obtain ⟨a, u, h1, _⟩ := s.own i _ o e rfl; exact ⟨_, h1, p F H .refl s _ h1⟩
def ap2 (g : D → D → Option PR) (x y : BR) (τ : T) : Rs PR := match x.at τ, y.at τ with
  | some d, some e => (match g d e with | some r => .ok r τ | none => .stuck)
  | _, _ => .stuck
theorem ap2_ok {K : PySem.W.Frag} {px : PX} {W : WX} {M : MS} {F H : Hp} {σ : St} {τ : T} {g : D → D → Option PR} {x y : BR} {R : PR → T → Hp → Hp → Prop} (p : Post K px W M F H σ (ap2 g x y τ) R) :
    ∃ d e r, x.at τ = some d ∧ y.at τ = some e ∧ g d e = some r ∧ Post K px W M F H σ (.ok r τ) R := by
  unfold ap2 at p
  cases e1 : x.at τ with
  | none => rw [e1] at p; exact p.elim
  | some d => cases e2 : y.at τ with
    | none => rw [e1, e2] at p; exact p.elim
    | some e =>
      rw [e1, e2] at p
      cases e3 : g d e with
      | none => simp only [e3] at p; exact p.elim
      | some r => simp only [e3] at p; exact ⟨d, e, r, rfl, rfl, e3, p⟩
def sOp2 (g : D → D → Option PR) (fa fb : T → Rs BR) : T → Rs PR := fun τ => (fa τ).bind fun x τ1 => (fb τ1).bind fun y τ2 => ap2 g x y τ2
section
variable {px : PX} {W : WX} {X : Cx} {pos : Pos} {a b : Expr} {fa fb : T → Rs BR} {g : D → D → Option PR}
theorem rd_op2 {K : PySem.W.Frag} {σ : St} {H : Hp} {Q : VK} (h : rdX K px W (sOp2 g fa fb) σ H Q) : tOp (r2 K g) (rdB K px W fa) (rdB K px W fb) σ H Q := by
  obtain ⟨M, F, τ, s, p⟩ := h
  refine rdB_bind s p fun x τ1 F1 H1 v g1 s1 rv p1 => rdB_bind s1 p1 fun y τ2 F2 H2 w g2 s2 rw' p2 => ?_
  obtain ⟨d, e, r, e1, e2, e3, p3⟩ := ap2_ok p2
  exact ⟨F2, d, e, r, s2.sub, (rv.mono g2.frz).now s2 e1, rw'.now s2 e2, e3, p3.pw s2⟩
theorem jx_bin {op : Operator} (ho : OpR X (binaryOp op) (r2 X.K g)) (ha : JB px W X a fa) (hb : JB px W X b fb) : JX px W X (.BinOp a op b pos) (sOp2 g fa fb) :=
  PE.imp (pe_op ho ha hb) fun _ _ _ h => rd_op2 h
theorem jx_cmp {op : CmpOp} (ho : OpR X (compareOp op) (r2 X.K g)) (ha : JB px W X a fa) (hb : JB px W X b fb) (hm : behindInMarks op b = false) : JX px W X (.Compare a [op] [b] pos) (sOp2 g fa fb) :=
  PE.imp (pe_cmpR ho ha hb hm) fun _ _ _ h => rd_op2 h
theorem jx_ix (hr : IxR X (r2 X.K g)) (ha : JB px W X a fa) (hb : JB px W X b fb) (hs : PlainIx b) : JX px W X (.Subscript a b pos) (sOp2 g fa fb) :=
  PE.imp (pe_ix hr ha hb hs) fun _ _ _ h => rd_op2 h
/-- a value as a test: its truth -/
def sTru (f : T → Rs BR) : T → Rs Bool := fun τ => (f τ).bind fun x τ1 => match x.at τ1 with
  | some d => (match d.truth with | some b => .ok b τ1 | none => .stuck)
  | none => .stuck
/-- a comparison as a test -/
def sTB (f : T → Rs PR) : T → Rs Bool := fun τ => (f τ).bind fun r τ1 => match r with
  | .d (.bl b) => .ok b τ1
  | _ => .stuck
theorem rd_tb {K : PySem.W.Frag} {σ : St} {H : Hp} {f : T → Rs PR} {Q : Bool → Hp → Prop} (h : rdT K px W (sTB f) σ H Q) : rdX K px W f σ H (fun x H1 => ∃ k, x = .bl k ∧ Q k H1) := by
  obtain ⟨M, F, τ, s, p⟩ := h
  refine ⟨M, F, τ, s, p.bind.imp fun r τ1 F1 H1 g1 s1 q => ?_⟩
  cases r with
  | o z => exact q.elim
  | d z => cases z with
    | bl c => exact fun v rv => by cases rv; exact ⟨c, rfl, q F1 H1 .refl s1⟩
    | _ => exact q.elim
theorem jt_cmp {op : CmpOp} (ho : OpR X (compareOp op) (r2 X.K g)) (ha : JB px W X a fa) (hb : JB px W X b fb) (hm : behindInMarks op b = false) : JT px W X (.Compare a [op] [b] pos) (sTB (sOp2 g fa fb)) :=
  PT.imp (pt_cmpR ho ha hb hm) fun _ _ _ h => rd_op2 (rd_tb h)
theorem jt_truth (ha : JB px W X a fa) (he : ∀ whole, isTrue a X.env whole = (do let v ← whole; standAt a.pos; holding [v] (truthy v))) : JT px W X a (sTru fa) := by
  refine PT.imp (pt_truth ha he) fun σ H Q ⟨M, F, τ, s, p⟩ => rdB_bind s p fun x τ1 F1 H1 v g1 s1 rv p1 => ?_
  cases e1 : x.at τ1 with
  | none => simp only [e1] at p1; exact p1.elim
  | some d =>
    cases e2 : d.truth with
    | none => simp only [e1, e2] at p1; exact p1.elim
    | some b =>
      simp only [e1, e2] at p1
      exact ⟨b, truth_of s1.sub (rv.now s1 e1) e2, p1 F1 H1 .refl s1⟩

variable {ta tb : T → Rs Bool} {rest : List Expr}
def sAnd (ta tb : T → Rs Bool) : T → Rs Bool := fun τ => (ta τ).bind fun c τ1 => if c then tb τ1 else .ok false τ1
def sOr (ta tb : T → Rs Bool) : T → Rs Bool := fun τ => (ta τ).bind fun c τ1 => if c then .ok true τ1 else tb τ1
def sNot (ta : T → Rs Bool) : T → Rs Bool := fun τ => (ta τ).bind fun c τ1 => .ok (!c) τ1
def JW (px : PX) (W : WX) (X : Cx) (e : Expr) (f : T → Rs Bool) : Prop := L2.PW X e (rdT X.K px W f)
theorem PW.imp' {X : Cx} {e : Expr} {t t' : TT} (h : L2.PW X e t) (i : ∀ σ H Q, t' σ H Q → t σ H Q) : L2.PW X e t' := ⟨fun wh pins s σ H Q I q => h.run wh pins s σ H Q I (i _ _ _ q)⟩
theorem jw_and1 (ha : JT px W X a ta) : JW px W X (.BoolOp .And [a] pos) ta := pw_and1 ha
theorem jw_or1 (ha : JT px W X a ta) : JW px W X (.BoolOp .Or [a] pos) ta := pw_or1 ha
theorem jw_and (ha : JT px W X a ta) (hb : JW px W X (.BoolOp .And (b :: rest) pos) tb) : JW px W X (.BoolOp .And (a :: b :: rest) pos) (sAnd ta tb) :=
  PW.imp' (pw_and ha hb) fun σ H Q ⟨M, F, τ, s, p⟩ => rdT_bind s p fun c τ1 F1 H1 g1 s1 q => by
    cases c with
    | true => exact ⟨M, F1, τ1, s1, q⟩
    | false => exact q F1 H1 .refl s1
theorem jw_or (ha : JT px W X a ta) (hb : JW px W X (.BoolOp .Or (b :: rest) pos) tb) : JW px W X (.BoolOp .Or (a :: b :: rest) pos) (sOr ta tb) :=
  PW.imp' (pw_or ha hb) fun σ H Q ⟨M, F, τ, s, p⟩ => rdT_bind s p fun c τ1 F1 H1 g1 s1 q => by
    cases c with
    | false => exact ⟨M, F1, τ1, s1, q⟩
    | true => exact q F1 H1 .refl s1
theorem JW.t {e : Expr} {f : T → Rs Bool} (h : JW px W X e f) : JT px W X e f := L2.PW.pt h
theorem jt_not (ha : JT px W X a ta) : JT px W X (.UnaryOp .Not a pos) (sNot ta) :=
  PT.imp (pt_not ha) fun σ H Q ⟨M, F, τ, s, p⟩ => rdT_bind s p fun c τ1 F1 H1 g1 s1 q => q F1 H1 .refl s1
end
end U
end

section
set_option Elab.async false
set_option linter.all false
set_option maxRecDepth 100000
namespace U
open PySem PySem.Spec PyProof.Rows L2

section
variable {px : PX} {W : WX} {X : Cx} {pos : Pos} {a b c : Expr} {rest : List Expr}
/-! ### and, or, not as values; a if t else b -/
/-- the truth of a result as it comes: frozen, or an owned one -/
def PR.truth (r : PR) : Option Bool := r.toD.truth
def sAndV (f g : T → Rs PR) : T → Rs PR := fun τ => (f τ).bind fun r τ1 => match r.truth with
  | some true => g τ1
  | some false => .ok r τ1
  | none => .stuck
def sOrV (f g : T → Rs PR) : T → Rs PR := fun τ => (f τ).bind fun r τ1 => match r.truth with
  | some true => .ok r τ1
  | some false => g τ1
  | none => .stuck
def sNotV (f : T → Rs PR) : T → Rs PR := fun τ => (f τ).bind fun r τ1 => match r.truth with
  | some k => .ok (.d (.bl (!k))) τ1
  | none => .stuck
theorem rdX_bind {K : PySem.W.Frag} {M : MS} {F H : Hp} {σ : St} {τ : T} {α : Type} {fa : T → Rs PR} {k : PR → T → Rs α} {R : α → T → Hp → Hp → Prop} {Q : VK} (s : SRel K M F H σ τ) (p : Post K px W M F H σ ((fa τ).bind k) R)
    (h : ∀ r τ1 F1 H1 v, Grow M F H F1 H1 → SRel K M F1 H1 σ τ1 → (match r with | .d z => Rep K F1 v z | .o z => OwnR K M F1 H1 σ τ1 v z) → Post K px W M F1 H1 σ (k r τ1) R → Q v H1) : rdX K px W fa σ H Q :=
  ⟨M, F, τ, s, p.bind.imp fun r τ1 F1 H1 g s1 q => by
    cases r with
    | d z => exact fun v rv => h (.d z) τ1 F1 H1 v g s1 rv q
    | o z => exact fun v rv => h (.o z) τ1 F1 H1 v g s1 rv q⟩
theorem now_pr {K : PySem.W.Frag} {M : MS} {F H : Hp} {σ : St} {τ : T} {r : PR} {v : V} (h : match r with | .d z => Rep K F v z | .o z => OwnR K M F H σ τ v z) : Now K F H v r.toD := by
  cases r with
  | d z => exact .inl h
  | o z =>
    obtain ⟨x, u, rfl, hu, _, _, ho, _⟩ := h
    exact .inr ⟨x, u, z, rfl, hu, ho, rfl⟩
theorem back_pr {K : PySem.W.Frag} {M : MS} {F H : Hp} {σ : St} {τ : T} {r : PR} {v : V} {Q : VK} (s : SRel K M F H σ τ) (h : match r with | .d z => Rep K F v z | .o z => OwnR K M F H σ τ v z)
    (p : Post K px W M F H σ (.ok r τ) (RX K M σ Q)) : Q v H := by
  cases r with
  | d z => exact p F H .refl s v h
  | o z => exact p F H .refl s v h
theorem jx_one {op : BoolOp} {f : T → Rs PR} (h : JX px W X a f) : JX px W X (.BoolOp op [a] pos) f := pe_one h
theorem jx_and {f g : T → Rs PR} (ha : JX px W X a f) (hb : JX px W X (.BoolOp .And (b :: rest) pos) g) : JX px W X (.BoolOp .And (a :: b :: rest) pos) (sAndV f g) := by
  refine PE.imp (pe_andT ha hb) fun σ H Q ⟨M, F, τ, s, p⟩ => rdX_bind s p fun r τ1 F1 H1 v g1 s1 rv p1 => ?_
  cases e : r.truth with
  | none => simp only [e] at p1; exact p1.elim
  | some k =>
    refine ⟨k, truth_of s1.sub (now_pr rv) e, ?_⟩
    cases k with
    | true => simp only [e] at p1; exact ⟨M, F1, τ1, s1, p1⟩
    | false => simp only [e] at p1; exact back_pr s1 rv p1
theorem jx_or {f g : T → Rs PR} (ha : JX px W X a f) (hb : JX px W X (.BoolOp .Or (b :: rest) pos) g) : JX px W X (.BoolOp .Or (a :: b :: rest) pos) (sOrV f g) := by
  refine PE.imp (pe_orT ha hb) fun σ H Q ⟨M, F, τ, s, p⟩ => rdX_bind s p fun r τ1 F1 H1 v g1 s1 rv p1 => ?_
  cases e : r.truth with
  | none => simp only [e] at p1; exact p1.elim
  | some k =>
    refine ⟨k, truth_of s1.sub (now_pr rv) e, ?_⟩
    cases k with
    | false => simp only [e] at p1; exact ⟨M, F1, τ1, s1, p1⟩
    | true => simp only [e] at p1; exact back_pr s1 rv p1
theorem jx_not {f : T → Rs PR} (ha : JX px W X a f) : JX px W X (.UnaryOp .Not a pos) (sNotV f) := by
  refine PE.imp (pe_notT ha) fun σ H Q ⟨M, F, τ, s, p⟩ => rdX_bind s p fun r τ1 F1 H1 v g1 s1 rv p1 => ?_
  cases e : r.truth with
  | none => simp only [e] at p1; exact p1.elim
  | some k =>
    simp only [e] at p1
    exact ⟨k, truth_of s1.sub (now_pr rv) e, p1 F1 H1 .refl s1 _ (.bl _)⟩
def sIte (t : T → Rs Bool) (f g : T → Rs PR) : T → Rs PR := fun τ => (t τ).bind fun k τ1 => if k then f τ1 else g τ1
theorem jx_ife {t : T → Rs Bool} {f g : T → Rs PR} (hc : JT px W X c t) (ha : JX px W X a f) (hb : JX px W X b g) : JX px W X (.IfExp c a b pos) (sIte t f g) :=
  PE.imp (pe_ifExp hc ha hb) fun σ H Q ⟨M, F, τ, s, p⟩ => rdT_bind s p fun k τ1 F1 H1 g1 s1 q => by
    cases k with
    | true => exact ⟨M, F1, τ1, s1, q⟩
    | false => exact ⟨M, F1, τ1, s1, q⟩
/-- -e -/
def sNeg (f : T → Rs D) : T → Rs PR := fun τ => (f τ).bind fun d τ1 => match d with
  | .int i => .ok (.d (.int (-i))) τ1
  | _ => .stuck
theorem jx_neg {f : T → Rs D} (ha : JE px W X a f) : JX px W X (.UnaryOp .USub a pos) (sNeg f) :=
  PE.imp (pe_un un_neg ha) fun σ H Q ⟨M, F, τ, s, p⟩ => rdE_bind s p fun d τ1 F1 H1 v g1 s1 rv q => by
    cases d <;> first | exact q.elim | skip
    cases rv
    exact ⟨_, rfl, q F1 H1 .refl s1 _ (.int _)⟩

/-! ### lists of arguments, displays -/
variable {e : Expr} {es : List Expr}
def sNil : T → Rs (List D) := fun τ => .ok [] τ
def sCons (f : T → Rs D) (g : T → Rs (List D)) : T → Rs (List D) := fun τ => (f τ).bind fun d τ1 => (g τ1).bind fun ds τ2 => .ok (d :: ds) τ2
def sStar (f : T → Rs BR) (g : T → Rs (List D)) : T → Rs (List D) := fun τ => (f τ).bind fun x τ1 => match x.at τ1 with
  | some (.tup xs) => (g τ1).bind fun ds τ2 => .ok (xs ++ ds) τ2
  | some (.lst xs) => (g τ1).bind fun ds τ2 => .ok (xs ++ ds) τ2
  | _ => .stuck
theorem ja_nil : JA px W X [] sNil := PA.imp pa_nil fun σ H Q ⟨M, F, τ, s, p⟩ => p F H .refl s _ .nil
theorem ja_cons {f : T → Rs D} {g : T → Rs (List D)} (ha : JE px W X e f) (hr : JA px W X es g) (hs : starEach (e :: es) X.env = (false, eval e X.env) :: starEach es X.env) : JA px W X (e :: es) (sCons f g) :=
  PA.imp (pa_cons ha hr hs) fun σ H Q ⟨M, F, τ, s, p⟩ => rdE_bind s p fun d τ1 F1 H1 v g1 s1 rv p1 => rdA_bind s1 p1 fun ds τ2 F2 H2 vs g2 s2 rvs p2 => p2 F2 H2 .refl s2 _ (.cons (rv.mono g2.frz) rvs)
theorem ja_star {sp : Pos} {f : T → Rs BR} {g : T → Rs (List D)} (ha : JB px W X e f) (hr : JA px W X es g) (hs : starEach (.Starred e sp :: es) X.env = (true, eval e X.env) :: starEach es X.env) : JA px W X (.Starred e sp :: es) (sStar f g) := by
  refine PA.imp (StX.pa_star ha hr hs) fun σ H Q ⟨M, F, τ, s, p⟩ => rdB_bind s p fun x τ1 F1 H1 v g1 s1 rv p1 => ?_
  cases e1 : x.at τ1 with
  | none => simp only [e1] at p1; exact p1.elim
  | some d =>
    have n := rv.now s1 e1
    cases d <;> first | (simp only [e1] at p1; exact p1.elim) | skip
    · obtain ⟨l, ws, rfl, hl, r1⟩ := n.tup s1.sub
      simp only [e1] at p1
      exact ⟨l, ws, rfl, .inl (.of hl), rdA_bind s1 p1 fun ds τ2 F2 H2 vs g2 s2 rvs p2 => p2 F2 H2 .refl s2 _ ((r1.mono g2.frz).append rvs)⟩
    · obtain ⟨l, ws, rfl, hl, r1⟩ := n.lst s1.sub
      simp only [e1] at p1
      exact ⟨l, ws, rfl, .inr (.of hl), rdA_bind s1 p1 fun ds τ2 F2 H2 vs g2 s2 rvs p2 => p2 F2 H2 .refl s2 _ ((r1.mono g2.frz).append rvs)⟩
def sTup (g : T → Rs (List D)) : T → Rs PR := fun τ => (g τ).bind fun ds τ1 => if ds.length ≤ lim then .ok (.d (.tup ds)) τ1 else .stuck
def sLst (g : T → Rs (List D)) : T → Rs PR := fun τ => (g τ).bind fun ds τ1 => if ds.length ≤ lim then .ok (.o (.l ds)) τ1 else .stuck
theorem jx_tup {n : Nat} {g : T → Rs (List D)} (h : JA px W X es g) : JX px W X (.Tuple es n pos) (sTup g) :=
  PE.imp (pe_tup h) fun σ H Q ⟨M, F, τ, s, p⟩ => rdA_bind s p fun ds τ1 F1 H1 vs g1 s1 rvs p1 => by
    by_cases c : ds.length ≤ lim
    · rw [if_pos c] at p1
      exact ⟨by rw [rvs.length]; exact lim_ok c, (p1.pw s1).tup s1.sub rvs⟩
    · rw [if_neg c] at p1; exact p1.elim
theorem jx_lst {g : T → Rs (List D)} (h : JA px W X es g) : JX px W X (.List es pos) (sLst g) :=
  PE.imp (pe_lst h) fun σ H Q ⟨M, F, τ, s, p⟩ => rdA_bind s p fun ds τ1 F1 H1 vs g1 s1 rvs p1 => by
    by_cases c : ds.length ≤ lim
    · rw [if_pos c] at p1
      exact ⟨by rw [rvs.length]; exact lim_ok c, (p1.pw s1).lst s1.sub rvs⟩
    · rw [if_neg c] at p1; exact p1.elim

/-! ### slices -/
def JOp (px : PX) (W : WX) (X : Cx) (e : Option Expr) (f : T → Rs (Option Int)) : Prop := PO X e (fun σ H Q => ∃ M F τ, SRel X.K M F H σ τ ∧ Post X.K px W M F H σ (f τ) fun o _ _ H' => Q o H')
def sNoP : T → Rs (Option Int) := fun τ => .ok none τ
def sSmP (f : T → Rs D) : T → Rs (Option Int) := fun τ => (f τ).bind fun d τ1 => match d with
  | .int i => .ok (some i) τ1
  | _ => .stuck
theorem PO.imp {e : Option Expr} {t t' : TO} (h : PO X e t) (i : ∀ σ H Q, t' σ H Q → t σ H Q) : PO X e t' := ⟨fun pins s σ H Q I q => h.run pins s σ H Q I (i _ _ _ q)⟩
theorem jo_none : JOp px W X none sNoP := PO.imp po_none fun σ H Q ⟨M, F, τ, s, p⟩ => p F H .refl s
theorem jo_some {f : T → Rs D} (h : JE px W X e f) : JOp px W X (some e) (sSmP f) :=
  PO.imp (po_some h) fun σ H Q ⟨M, F, τ, s, p⟩ => rdE_bind s p fun d τ1 F1 H1 v g1 s1 rv q => by
    cases d <;> first | exact q.elim | skip
    cases rv
    exact ⟨_, rfl, q F1 H1 .refl s1⟩
def sSl (f : T → Rs BR) (l u : T → Rs (Option Int)) : T → Rs PR := fun τ => (f τ).bind fun x τ1 => (l τ1).bind fun lo τ2 => (u τ2).bind fun hi τ3 => match x.at τ3 with
  | some d => (match gSl lo hi d with | some r => .ok r τ3 | none => .stuck)
  | none => .stuck
theorem jx_sl {lo hi : Option Expr} {p2 : Pos} {f : T → Rs BR} {l u : T → Rs (Option Int)} (ha : JB px W X a f) (hl : JOp px W X lo l) (hu : JOp px W X hi u) : JX px W X (.Subscript a (.Slice lo hi none p2) pos) (sSl f l u) := by
  refine PE.imp (pe_slice sl_U ha hl hu) fun σ H Q ⟨M, F, τ, s, p⟩ => rdB_bind s p fun x τ1 F1 H1 v g1 s1 rv p1 => ?_
  refine ⟨M, F1, τ1, s1, p1.bind.imp fun lo τ2 F2 H2 g2 s2 p2 => ⟨M, F2, τ2, s2, p2.bind.imp fun hi τ3 F3 H3 g3 s3 p3 => ?_⟩⟩
  cases e1 : x.at τ3 with
  | none => simp only [e1] at p3; exact p3.elim
  | some d =>
    cases e2 : gSl lo hi d with
    | none => simp only [e1, e2] at p3; exact p3.elim
    | some r =>
      simp only [e1, e2] at p3
      exact ⟨F3, d, r, s3.sub, (rv.mono (g2.frz.trans g3.frz)).now s3 e1, e2, p3.pw s3⟩

/-! ### built-in calls -/
/-- arguments that are looked at -/
inductive BRL (K : PySem.W.Frag) (F : Hp) (σ : St) : List V → List BR → Prop
  | nil : BRL K F σ [] []
  | cons {v : V} {vs : List V} {b : BR} {bs : List BR} : BRep K F σ v b → BRL K F σ vs bs → BRL K F σ (v :: vs) (b :: bs)
theorem BRL.mono {K : PySem.W.Frag} {F F' : Hp} {σ : St} (e : Sub F F') : ∀ {vs : List V} {bs : List BR}, BRL K F σ vs bs → BRL K F' σ vs bs
  | _, _, .nil => .nil
  | _, _, .cons h r => .cons (h.mono e) (r.mono e)
def atL : List BR → T → Option (List D)
  | [], _ => some []
  | b :: bs, τ => match b.at τ, atL bs τ with
    | some d, some ds => some (d :: ds)
    | _, _ => none
theorem BRL.now {K : PySem.W.Frag} {M : MS} {F H : Hp} {σ : St} {τ : T} (s : SRel K M F H σ τ) : ∀ {vs : List V} {bs : List BR} {ds : List D}, BRL K F σ vs bs → atL bs τ = some ds → NowL K F H vs ds
  | _, _, _, .nil, e => by cases e; exact .nil
  | _, _, _, .cons (b := b) (bs := bs) h r, e => by
    unfold atL at e
    cases e1 : b.at τ with
    | none => rw [e1] at e; cases e
    | some d => cases e2 : atL bs τ with
      | none => rw [e1, e2] at e; cases e
      | some ds => rw [e1, e2] at e; cases e; exact .cons (h.now s e1) (BRL.now s r e2)
def JAB (px : PX) (W : WX) (X : Cx) (es : List Expr) (f : T → Rs (List BR)) : Prop := PA X es (fun σ H Q => ∃ M F τ, SRel X.K M F H σ τ ∧ Post X.K px W M F H σ (f τ) fun bs _ F' H' => ∀ vs, BRL X.K F' σ vs bs → Q vs H')
def sBNil : T → Rs (List BR) := fun τ => .ok [] τ
def sBCons (f : T → Rs BR) (g : T → Rs (List BR)) : T → Rs (List BR) := fun τ => (f τ).bind fun d τ1 => (g τ1).bind fun ds τ2 => .ok (d :: ds) τ2
theorem jab_nil : JAB px W X [] sBNil := PA.imp pa_nil fun σ H Q ⟨M, F, τ, s, p⟩ => p F H .refl s _ .nil
theorem jab_cons {f : T → Rs BR} {g : T → Rs (List BR)} (ha : JB px W X e f) (hr : JAB px W X es g) (hs : starEach (e :: es) X.env = (false, eval e X.env) :: starEach es X.env) : JAB px W X (e :: es) (sBCons f g) :=
  PA.imp (pa_cons ha hr hs) fun σ H Q ⟨M, F, τ, s, p⟩ => rdB_bind s p fun d τ1 F1 H1 v g1 s1 rv p1 =>
    ⟨M, F1, τ1, s1, p1.bind.imp fun ds τ2 F2 H2 g2 s2 p2 vs rvs => p2 F2 H2 .refl s2 _ (.cons (rv.mono g2.frz) rvs)⟩
def sCB (g : List D → Option PR) (f : T → Rs (List BR)) : T → Rs PR := fun τ => (f τ).bind fun bs τ1 => match atL bs τ1 with
  | some ds => (match g ds with | some r => .ok r τ1 | none => .stuck)
  | none => .stuck
theorem rd_cb {K : PySem.W.Frag} {σ : St} {H : Hp} {Q : VK} {g : List D → Option PR} {f : T → Rs (List BR)} (h : rdX K px W (sCB g f) σ H Q) :
    (∃ M F τ, SRel K M F H σ τ ∧ Post K px W M F H σ (f τ) fun bs _ F' H' => ∀ vs, BRL K F' σ vs bs → rC K g vs H' Q) := by
  obtain ⟨M, F, τ, s, p⟩ := h
  refine ⟨M, F, τ, s, p.bind.imp fun bs τ1 F1 H1 g1 s1 p1 vs rvs => ?_⟩
  cases e1 : atL bs τ1 with
  | none => simp only [e1] at p1; exact p1.elim
  | some ds =>
    cases e2 : g ds with
    | none => simp only [e1, e2] at p1; exact p1.elim
    | some r =>
      simp only [e1, e2] at p1
      exact ⟨F1, ds, r, s1.sub, rvs.now s1 e1, e2, p1.pw s1⟩
theorem jx_callB {x : Str} {id : String} {p : Pos} {g : List D → Option PR} {f : T → Rs (List BR)} (hc : CallR X (.builtin id) (rC X.K g)) (hg : Gl X x) (hm : X.mg x = none) (hv : bootBuiltins x = some (.builtin id)) (ha : JAB px W X (e :: es) f)
    (hn : x ≠ "__name__") (hdb : (x == ("__debug__" : Str)) = false) (he : starEach (e :: es) X.env = (false, eval e X.env) :: starEach es X.env) (hpl : (backTo pos (starEach es X.env)).any (·.1) = false) :
    JX px W X (.Call (.Name x p) (e :: es) [] pos) (sCB g f) := PE.imp (pe_callB hc hg hm hv ha hn hdb he hpl) fun _ _ _ h => rd_cb h
theorem jx_callTy {x : Str} {id : String} {p : Pos} {g : List D → Option PR} {f : T → Rs (List BR)} (hc : CallR X (.type id) (rC X.K g)) (hg : Gl X x) (hm : X.mg x = none) (hv : bootBuiltins x = some (.type id)) (ha : JAB px W X (e :: es) f)
    (hn : x ≠ "__name__") (hdb : (x == ("__debug__" : Str)) = false) (he : starEach (e :: es) X.env = (false, eval e X.env) :: starEach es X.env) (hpl : (backTo pos (starEach es X.env)).any (·.1) = false) :
    JX px W X (.Call (.Name x p) (e :: es) [] pos) (sCB g f) := PE.imp (pe_callTy hc hg hm hv ha hn hdb he hpl) fun _ _ _ h => rd_cb h
end
end U
end

section
set_option Elab.async false
set_option linter.all false
set_option maxRecDepth 100000
namespace U
open PySem PySem.Spec PyProof.Rows L2

/-! ### slots written -/
theorem get_set {α : Type} {l : List α} {i j : Nat} {x y : α} (h : (l.set i x)[j]? = some y) : (j = i ∧ y = x ∧ i < l.length) ∨ (j ≠ i ∧ l[j]? = some y) := by
  by_cases q : i = j
  · subst q
    rw [List.getElem?_set] at h
    simp only [if_true] at h
    split at h
    · rename_i hl; exact .inl ⟨rfl, (Option.some.inj h).symm, hl⟩
    · cases h
  · rw [List.getElem?_set_ne q] at h
    exact .inr ⟨Ne.symm q, h⟩
def notIo (τ : T) (i : Nat) : Bool := match τ[i]? with
  | some (.io _) => false
  | some _ => true
  | none => false
theorem notIo_lt {τ : T} {i : Nat} (h : notIo τ i = true) : i < τ.length := by
  unfold notIo at h
  cases e : τ[i]? with
  | none => rw [e] at h; cases h
  | some s => exact (List.getElem?_eq_some_iff.mp e).1
section
variable {K : PySem.W.Frag} {px : PX} {W : WX} {M : MS} {F H F1 H1 : Hp} {σ : St} {τ : T}
theorem SRel.setv {i : Nat} {v : V} {d : D} (s : SRel K M F H σ τ) (h : notIo τ i = true) (r : Rep K F v d) : SRel K M F H (σ.set i (some v)) (τ.set i (.val d)) := by
  have hi := Nat.lt_of_lt_of_le (notIo_lt h) s.len
  refine ⟨by simpa using s.len, s.up, s.sub, fun j d' e => ?_, fun j sl ov e1 e2 => ?_, fun j k sl tl b e1 m1 e2 m2 f1 f2 => ?_, fun j o e => ?_⟩
  · rcases get_set e with ⟨rfl, q, _⟩ | ⟨n, e⟩
    · cases q; exact ⟨v, by rw [List.getElem?_set_self hi], r⟩
    · rw [List.getElem?_set_ne (Ne.symm n)]; exact s.val j d' e
  · rcases get_set e1 with ⟨rfl, rfl, _⟩ | ⟨n, e⟩
    · cases e2
    · rw [List.getElem?_set_ne (Ne.symm n)]; exact s.own j sl ov e e2
  · rcases get_set e1 with ⟨rfl, rfl, _⟩ | ⟨n1, e1⟩
    · exact absurd rfl m1
    · rcases get_set e2 with ⟨rfl, rfl, _⟩ | ⟨n2, e2⟩
      · exact absurd rfl m2
      · rw [List.getElem?_set_ne (Ne.symm n1)] at f1
        rw [List.getElem?_set_ne (Ne.symm n2)] at f2
        exact s.apart j k sl tl b e1 m1 e2 m2 f1 f2
  · rcases get_set e with ⟨rfl, q, _⟩ | ⟨n, e⟩
    · cases q
    · rw [List.getElem?_set_ne (Ne.symm n)]; exact s.io j o e
theorem SRel.seto {i : Nat} {v : V} {o : OV} (s : SRel K M F H σ τ) (h : notIo τ i = true) (r : OwnR K M F H σ τ v o) : SRel K M F H (σ.set i (some v)) (τ.set i (.own o)) := by
  have hi := Nat.lt_of_lt_of_le (notIo_lt h) s.len
  obtain ⟨a, u, rfl, hu, hf, hm, ho, hx⟩ := r
  refine ⟨by simpa using s.len, s.up, s.sub, fun j d' e => ?_, fun j sl ov e1 e2 => ?_, fun j k sl tl b e1 m1 e2 m2 f1 f2 => ?_, fun j o e => ?_⟩
  · rcases get_set e with ⟨rfl, q, _⟩ | ⟨n, e⟩
    · cases q
    · rw [List.getElem?_set_ne (Ne.symm n)]; exact s.val j d' e
  · rcases get_set e1 with ⟨rfl, rfl, _⟩ | ⟨n, e⟩
    · cases e2
      exact ⟨a, u, by rw [List.getElem?_set_self hi], hu, hf, hm, ho⟩
    · rw [List.getElem?_set_ne (Ne.symm n)]; exact s.own j sl ov e e2
  · rcases get_set e1 with ⟨rfl, rfl, _⟩ | ⟨n1, e1'⟩
    · rw [List.getElem?_set_self hi] at f1
      cases f1
      rcases get_set e2 with ⟨rfl, rfl, _⟩ | ⟨n2, e2⟩
      · rfl
      · rw [List.getElem?_set_ne (Ne.symm n2)] at f2
        exact absurd f2 (hx k tl e2 m2)
    · rw [List.getElem?_set_ne (Ne.symm n1)] at f1
      rcases get_set e2 with ⟨q, rfl, _⟩ | ⟨n2, e2'⟩
      · rw [q, List.getElem?_set_self hi] at f2
        cases f2
        exact absurd f1 (hx j sl e1' m1)
      · rw [List.getElem?_set_ne (Ne.symm n2)] at f2
        exact s.apart j k sl tl b e1' m1 e2' m2 f1 f2
  · rcases get_set e with ⟨rfl, q, _⟩ | ⟨n, e⟩
    · cases q
    · rw [List.getElem?_set_ne (Ne.symm n)]; exact s.io j o e
def Sl.put (s : Sl) (o : OV) : Sl := match s with
  | .io _ => .io o
  | _ => .own o
/-- an owned object is written -/
theorem SRel.write {i : Nat} {sl : Sl} {o o' : OV} {a : Addr} {u u' : HO} (s : SRel K M F H σ τ) (e : τ[i]? = some sl) (m : sl.mut = some o) (hv : σ[i]? = some (some (V.ref a))) (hu : H a = some u) (hf : F a = none) (hm : M.m a) (ho : OwnO K F o' u') :
    Grow M F H F (upd H a u') ∧ SRel K M F (upd H a u') σ (τ.set i (sl.put o')) := by
  have hi := (List.getElem?_eq_some_iff.mp e).1
  have mne : sl.mut ≠ none := by rw [m]; exact fun z => nomatch z
  have pm : (sl.put o').mut = some o' := by cases sl <;> rfl
  refine ⟨⟨fun b q => ?_, Sub.refl _, fun b w q n => ?_, fun b q _ _ => q⟩, by simpa using s.len, fun b q => ?_, fun b w q => ?_, fun j d' q => ?_, fun j tl ov e1 e2 => ?_, fun j k tl wl b e1 m1 e2 m2 f1 f2 => ?_, fun j o q => ?_⟩
  · by_cases c : b = a
    · rw [c, upd_same] at q; cases q
    · rw [upd_ne c] at q; exact q
  · rw [upd_ne (fun c => n (by rw [c]; exact hm))]; exact q
  · by_cases c : b = a
    · rw [c]; exact hm
    · rw [upd_ne c] at q; exact s.up b q
  · rw [upd_ne (fun c => by rw [c, hf] at q; cases q)]; exact s.sub b w q
  · rcases get_set q with ⟨rfl, z, _⟩ | ⟨n, q⟩
    · cases sl <;> cases z
    · exact s.val j d' q
  · rcases get_set e1 with ⟨rfl, rfl, _⟩ | ⟨n, e1⟩
    · rw [pm] at e2; cases e2
      exact ⟨a, u', hv, upd_same, hf, hm, ho⟩
    · obtain ⟨b, w, h1, h2, h3, h4, h5⟩ := s.own j tl ov e1 e2
      have ne : b ≠ a := fun c => n (s.apart j i tl sl a e1 (by rw [e2]; exact fun z => nomatch z) e mne (by rw [← c]; exact h1) hv)
      exact ⟨b, w, h1, by rw [upd_ne ne]; exact h2, h3, h4, h5⟩
  · have o1 : ∃ tl', τ[j]? = some tl' ∧ tl'.mut ≠ none := by
      rcases get_set e1 with ⟨rfl, rfl, _⟩ | ⟨n, e1⟩
      · exact ⟨sl, e, mne⟩
      · exact ⟨tl, e1, m1⟩
    have o2 : ∃ tl', τ[k]? = some tl' ∧ tl'.mut ≠ none := by
      rcases get_set e2 with ⟨rfl, rfl, _⟩ | ⟨n, e2⟩
      · exact ⟨sl, e, mne⟩
      · exact ⟨wl, e2, m2⟩
    obtain ⟨t1, a1, b1⟩ := o1
    obtain ⟨t2, a2, b2⟩ := o2
    exact s.apart j k t1 t2 b a1 b1 a2 b2 f1 f2
  · rcases get_set q with ⟨rfl, z, _⟩ | ⟨n, q⟩
    · cases sl <;> first | (cases z; done) | skip
      exact s.io j _ e
    · exact s.io j o q
end

/-! ### statements -/
inductive SR where
  | nx (t : T) | rt (r : PR) (t : T) | bk (t : T) | ct (t : T) | exc (x : Ex) (t : T) | stuck
def Rs.s {α : Type} (m : Rs α) (f : α → T → SR) : SR := match m with
  | .ok a t => f a t
  | .exc x t => .exc x t
  | .stuck => .stuck
def SPost (K : PySem.W.Frag) (px : PX) (W : WX) (M : MS) (F H : Hp) (D : Ends) : SR → Prop
  | .nx τ' => ∀ σ' F' H', Grow M F H F' H' → SRel K M F' H' σ' τ' → D.nx σ' H'
  | .bk τ' => ∀ σ' F' H', Grow M F H F' H' → SRel K M F' H' σ' τ' → D.bk σ' H'
  | .ct τ' => ∀ σ' F' H', Grow M F H F' H' → SRel K M F' H' σ' τ' → D.ct σ' H'
  | .rt (.d z) τ' => ∀ v σ' F' H', Grow M F H F' H' → SRel K M F' H' σ' τ' → Rep K F' v z → D.rt v H'
  | .rt (.o z) τ' => ∀ v σ' F' H', Grow M F H F' H' → SRel K M F' H' σ' τ' → OwnR K M F' H' σ' τ' v z → D.rt v H'
  | .exc x τ' => ∀ σ' F' H', Grow M F H F' H' → SRel K M F' H' σ' τ' → ∀ dd, XD K px F' H' x dd → W (.ref (px.cls x.c)) dd σ' H'
  | .stuck => False
def rdS (K : PySem.W.Frag) (px : PX) (W : WX) (f : T → SR) : TS := fun D σ H => ∃ M F τ, SRel K M F H σ τ ∧ SPost K px W M F H D (f τ)
def JS (px : PX) (W : WX) (X : Cx) (st : Stmt) (f : T → SR) : Prop := PS X st (rdS X.K px W f)
def JSs (px : PX) (W : WX) (X : Cx) (st : List Stmt) (f : T → SR) : Prop := PSs X st (rdS X.K px W f)
theorem PS.imp {X : Cx} {st : Stmt} {t t' : TS} (h : PS X st t) (i : ∀ D σ H, t' D σ H → t D σ H) : PS X st t' := ⟨fun pins s σ H D I q => h.run pins s σ H D I (i _ _ _ q)⟩
theorem PSs.imp {X : Cx} {st : List Stmt} {t t' : TS} (h : PSs X st t) (i : ∀ D σ H, t' D σ H → t D σ H) : PSs X st t' := ⟨fun pins s σ H D I q => h.run pins s σ H D I (i _ _ _ q)⟩
section
variable {K : PySem.W.Frag} {px : PX} {W : WX} {M : MS} {F H F1 H1 : Hp} {σ : St} {τ : T} {D : Ends}
theorem SPost.from {m : SR} (p : SPost K px W M F H D m) (g : Grow M F H F1 H1) : SPost K px W M F1 H1 D m := by
  cases m with
  | rt r t => cases r with
    | d z => exact fun v σ' F' H' g' s r => p v σ' F' H' (g.trans g') s r
    | o z => exact fun v σ' F' H' g' s r => p v σ' F' H' (g.trans g') s r
  | stuck => exact p
  | _ => exact fun σ' F' H' g' s => p σ' F' H' (g.trans g') s
/-- an expression, then the rest -/
theorem SPost.bind {α : Type} {m : Rs α} {k : α → T → SR} (p : SPost K px W M F H D (m.s k)) : Post K px W M F H σ m (fun a τ' F' H' => SPost K px W M F' H' D (k a τ')) := by
  cases m with
  | ok a t => exact fun F' H' g s => SPost.from p g
  | exc x t => exact fun F' H' g s => p σ F' H' g s
  | stuck => exact p
theorem rdE_s {fa : T → Rs U.D} {k : U.D → T → SR} {Q : VK} (s : SRel K M F H σ τ) (p : SPost K px W M F H D ((fa τ).s k))
    (h : ∀ d τ1 F1 H1 v, Grow M F H F1 H1 → SRel K M F1 H1 σ τ1 → Rep K F1 v d → SPost K px W M F1 H1 D (k d τ1) → Q v H1) : rdE K px W fa σ H Q :=
  ⟨M, F, τ, s, p.bind.imp fun d τ1 F1 H1 g s1 q v r => h d τ1 F1 H1 v g s1 r q⟩
theorem rdT_s {fa : T → Rs Bool} {k : Bool → T → SR} {Q : Bool → Hp → Prop} (s : SRel K M F H σ τ) (p : SPost K px W M F H D ((fa τ).s k))
    (h : ∀ d τ1 F1 H1, Grow M F H F1 H1 → SRel K M F1 H1 σ τ1 → SPost K px W M F1 H1 D (k d τ1) → Q d H1) : rdT K px W fa σ H Q :=
  ⟨M, F, τ, s, p.bind.imp fun d τ1 F1 H1 g s1 q => h d τ1 F1 H1 g s1 q⟩
theorem rdX_s {fa : T → Rs PR} {k : PR → T → SR} {Q : VK} (s : SRel K M F H σ τ) (p : SPost K px W M F H D ((fa τ).s k))
    (h : ∀ r τ1 F1 H1 v, Grow M F H F1 H1 → SRel K M F1 H1 σ τ1 → (match r with | .d z => Rep K F1 v z | .o z => OwnR K M F1 H1 σ τ1 v z) → SPost K px W M F1 H1 D (k r τ1) → Q v H1) : rdX K px W fa σ H Q :=
  ⟨M, F, τ, s, p.bind.imp fun r τ1 F1 H1 g s1 q => by
    cases r with
    | d z => exact fun v rv => h (.d z) τ1 F1 H1 v g s1 rv q
    | o z => exact fun v rv => h (.o z) τ1 F1 H1 v g s1 rv q⟩
end
def sNext : T → SR := fun τ => .nx τ
def SR.then (m : SR) (g : T → SR) : SR := match m with
  | .nx t => g t
  | m => m
def sSeq (f g : T → SR) : T → SR := fun τ => (f τ).then g
section
variable {px : PX} {W : WX} {X : Cx} {pos : Pos} {st : Stmt} {rest : List Stmt} {f g : T → SR}
theorem jss_nil : JSs px W X [] sNext := PSs.imp pss_nil fun D σ H ⟨M, F, τ, s, p⟩ => p σ F H .refl s
theorem SPost.imp {K : PySem.W.Frag} {M : MS} {F H : Hp} {D D' : Ends} {m : SR} (p : SPost K px W M F H D m) (hn : ∀ τ', m = .nx τ' → ∀ σ' F' H', Grow M F H F' H' → SRel K M F' H' σ' τ' → D.nx σ' H' → D'.nx σ' H')
    (hr : ∀ v H', D.rt v H' → D'.rt v H') (hb : ∀ σ' H', D.bk σ' H' → D'.bk σ' H') (hc : ∀ σ' H', D.ct σ' H' → D'.ct σ' H') : SPost K px W M F H D' m := by
  cases m with
  | nx t => exact fun σ' F' H' g s => hn t rfl σ' F' H' g s (p σ' F' H' g s)
  | bk t => exact fun σ' F' H' g s => hb _ _ (p σ' F' H' g s)
  | ct t => exact fun σ' F' H' g s => hc _ _ (p σ' F' H' g s)
  | rt r t => cases r with
    | d z => exact fun v σ' F' H' g s r => hr _ _ (p v σ' F' H' g s r)
    | o z => exact fun v σ' F' H' g s r => hr _ _ (p v σ' F' H' g s r)
  | exc x t => exact p
  | stuck => exact p
theorem jss_cons (h1 : JS px W X st f) (h2 : JSs px W X rest g) : JSs px W X (st :: rest) (sSeq f g) := by
  refine PSs.imp (pss_cons h1 h2) fun D σ H ⟨M, F, τ, s, p⟩ => ⟨M, F, τ, s, ?_⟩
  unfold sSeq at p
  cases e : f τ with
  | nx t =>
    rw [e] at p
    exact fun σ' F' H' g' s' => ⟨M, F', t, s', SPost.from p g'⟩
  | rt r t => rw [e] at p; cases r <;> exact p
  | bk t => rw [e] at p; exact p
  | ct t => rw [e] at p; exact p
  | exc x t => rw [e] at p; exact p
  | stuck => rw [e] at p; exact p
theorem jss_one (h1 : JS px W X st f) : JSs px W X [st] f := pss_one h1
theorem js_pass : JS px W X (.Pass pos) sNext := PS.imp ps_pass fun D σ H ⟨M, F, τ, s, p⟩ => p σ F H .refl s
theorem js_break : JS px W X (.Break pos) (fun τ => .bk τ) := PS.imp ps_break fun D σ H ⟨M, F, τ, s, p⟩ => p σ F H .refl s
theorem js_cont : JS px W X (.Continue pos) (fun τ => .ct τ) := PS.imp ps_continue fun D σ H ⟨M, F, τ, s, p⟩ => p σ F H .refl s
/-- an expression whose value is dropped -/
def sDrop (f : T → Rs PR) : T → SR := fun τ => (f τ).s fun _ τ1 => .nx τ1
theorem js_expr {e : Expr} {f : T → Rs PR} (h : JX px W X e f) (hs : swapsWith e none pos.line X.env = pure false) : JS px W X (.Expr e pos) (sDrop f) :=
  PS.imp (ps_expr h hs) fun D σ H ⟨M, F, τ, s, p⟩ => rdX_s s p fun r τ1 F1 H1 v g1 s1 rv q => q σ F1 H1 .refl s1
def sRet (f : T → Rs PR) : T → SR := fun τ => (f τ).s fun r τ1 => .rt r τ1
theorem js_ret {e : Expr} {f : T → Rs PR} (h : JX px W X e f) : JS px W X (.Return (some e) pos) (sRet f) :=
  PS.imp (ps_ret h) fun D σ H ⟨M, F, τ, s, p⟩ => rdX_s s p fun r τ1 F1 H1 v g1 s1 rv q => by
    cases r with
    | d z => exact q v σ F1 H1 .refl s1 rv
    | o z => exact q v σ F1 H1 .refl s1 rv
/-- an owned slot handed back -/
def sRetO (i : Nat) : T → SR := fun τ => match τ[i]? with
  | some (.own o) => .rt (.o o) (τ.set i .no)
  | _ => .stuck
theorem js_retO {x : Str} {xp : Pos} {i : Nat} (h : PE X (.Name x xp) (tVar i)) : JS px W X (.Return (some (.Name x xp)) pos) (sRetO i) :=
  PS.imp (ps_ret h) fun D σ H ⟨M, F, τ, s, p⟩ => by
    unfold sRetO at p
    cases e : τ[i]? with
    | none => rw [e] at p; exact p.elim
    | some sl =>
      rw [e] at p
      cases sl <;> first | exact p.elim | skip
      obtain ⟨a, hv, ow⟩ := s.own_at e rfl
      exact ⟨_, hv, p _ σ F H .refl (s.drop i) ow⟩
theorem js_ret0 : JS px W X (.Return none pos) (fun τ => .rt (.d .non) τ) := PS.imp ps_retN fun D σ H ⟨M, F, τ, s, p⟩ => p _ σ F H .refl s .non
def sIfS (t : T → Rs Bool) (f g : T → SR) : T → SR := fun τ => (t τ).s fun b τ1 => if b then f τ1 else g τ1
theorem js_if {c : Expr} {a b : List Stmt} {t : T → Rs Bool} (hc : JT px W X c t) (ha : JSs px W X a f) (hb : JSs px W X b g) : JS px W X (.If c a b pos) (sIfS t f g) :=
  PS.imp (ps_if hc ha hb) fun D σ H ⟨M, F, τ, s, p⟩ => rdT_s s p fun k τ1 F1 H1 g1 s1 q => by
    cases k with
    | true => exact ⟨M, F1, τ1, s1, q⟩
    | false => exact ⟨M, F1, τ1, s1, q⟩
/-- name = value -/
def PR.slot : PR → Sl
  | .d z => .val z
  | .o z => .own z
def putS (i : Nat) (r : PR) (τ : T) : SR := if notIo τ i then .nx (τ.set i r.slot) else .stuck
def sSet (i : Nat) (f : T → Rs PR) : T → SR := fun τ => (f τ).s fun r τ1 => putS i r τ1
theorem put_ok {K : PySem.W.Frag} {M : MS} {F H : Hp} {σ : St} {τ : T} {D : Ends} {i : Nat} {r : PR} {v : V} (s : SRel K M F H σ τ) (rv : match r with | .d z => Rep K F v z | .o z => OwnR K M F H σ τ v z) (p : SPost K px W M F H D (putS i r τ)) : D.nx (σ.set i (some v)) H := by
  unfold putS at p
  by_cases c : notIo τ i = true
  · rw [if_pos c] at p
    cases r with
    | d z => exact p _ F H .refl (s.setv c rv)
    | o z => exact p _ F H .refl (s.seto c rv)
  · rw [if_neg c] at p; exact p.elim
theorem js_asg {tg : Expr} {i : Nat} {e : Expr} {f : T → Rs PR} {te : TE} (h : PS X (.Assign [tg] e pos) (tAsg te (gName i))) (hi : ∀ σ H Q, rdX X.K px W f σ H Q → te σ H Q) : JS px W X (.Assign [tg] e pos) (sSet i f) :=
  PS.imp h fun D σ H ⟨M, F, τ, s, p⟩ => hi _ _ _ (rdX_s s p fun r τ1 F1 H1 v g1 s1 rv q => put_ok s1 rv q)
end
end U
end

section
set_option Elab.async false
set_option linter.all false
set_option maxRecDepth 100000
namespace U
open PySem PySem.Spec PyProof.Rows L2

/-! ### what is walked -/
structure Conf (K : PySem.W.Frag) (F : Hp) (J : It) (ds : List D) : Prop where
  go : ∀ i H', i < ds.length → Sub F H' → J.go i H'
  stop : ∀ H', Sub F H' → J.stop ds.length H'
  yld : ∀ (i : Nat) F' H' x H'' (d : D), ds[i]? = some d → Sub F F' → Sub F' H' → J.yld i H' x H'' → ∃ F'', New F' H' F'' H'' ∧ Rep K F'' x d
theorem Conf.mono {K : PySem.W.Frag} {F F1 : Hp} {J : It} {ds : List D} (c : Conf K F J ds) (e : Sub F F1) : Conf K F1 J ds :=
  ⟨fun i H' hi s => c.go i H' hi (e.trans s), fun H' s => c.stop H' (e.trans s), fun i F' H' x H'' d h s s' y => c.yld i F' H' x H'' d h (e.trans s) s' y⟩
def rdI (K : PySem.W.Frag) (px : PX) (W : WX) (f : T → Rs (List D)) : TI := fun σ H R => ∃ M F τ, SRel K M F H σ τ ∧ Post K px W M F H σ (f τ) fun ds _ F' H' => ∀ J, Conf K F' J ds → R J H'
def JI (px : PX) (W : WX) (X : Cx) (tg iter : Expr) (f : T → Rs (List D)) : Prop := PI X tg iter (rdI X.K px W f)
theorem PI.imp {X : Cx} {tg e : Expr} {t t' : TI} (h : PI X tg e t) (i : ∀ σ H Q, t' σ H Q → t σ H Q) : PI X tg e t' := ⟨fun pins s σ H Q I q => h.run pins s σ H Q I (i _ _ _ q)⟩
section
variable {K : PySem.W.Frag} {F H : Hp}
theorem conf_list {a : Addr} {vs : List V} {ds : List D} (h : F a = some (.lst vs)) (r : RepL K F vs ds) : Conf K F (Itl K a) ds := by
  refine ⟨fun i H' hi s => ?_, fun H' s => ⟨vs, .of (s _ _ h), by rw [r.length]; exact Nat.le_refl _⟩, fun i F' H' x H'' d e s s' y => ?_⟩
  · have hv : i < vs.length := by rw [r.length]; exact hi
    exact ⟨vs, vs[i], .of (s _ _ h), by simp [hv]⟩
  · obtain ⟨v, e1, rv⟩ := r.get e
    obtain ⟨rfl, y⟩ := y
    have := y vs (.of (s' _ _ (s _ _ h)))
    rw [e1] at this
    cases this
    exact ⟨F', .refl s', rv.mono s⟩
theorem conf_tup {a : Addr} {vs : List V} {ds : List D} (h : F a = some (.tup vs)) (r : RepL K F vs ds) : Conf K F (Itt K a) ds := by
  refine ⟨fun i H' hi s => ?_, fun H' s => ⟨vs, .of (s _ _ h), by rw [r.length]; exact Nat.le_refl _⟩, fun i F' H' x H'' d e s s' y => ?_⟩
  · have hv : i < vs.length := by rw [r.length]; exact hi
    exact ⟨vs, vs[i], .of (s _ _ h), by simp [hv]⟩
  · obtain ⟨v, e1, rv⟩ := r.get e
    obtain ⟨rfl, y⟩ := y
    have := y vs (.of (s' _ _ (s _ _ h)))
    rw [e1] at this
    cases this
    exact ⟨F', .refl s', rv.mono s⟩
theorem conf_ptp {a : Addr} {o : Obj} {vs : List V} {ds : List D} (h : F a = some (.frz o (.tup vs))) (r : RepL K F vs ds) : Conf K F (Itt K a) ds := by
  refine ⟨fun i H' hi s => ?_, fun H' s => ⟨vs, .inl (.inr ⟨o, s _ _ h⟩), by rw [r.length]; exact Nat.le_refl _⟩, fun i F' H' x H'' d e s s' y => ?_⟩
  · have hv : i < vs.length := by rw [r.length]; exact hi
    exact ⟨vs, vs[i], .inl (.inr ⟨o, s _ _ h⟩), by simp [hv]⟩
  · obtain ⟨v, e1, rv⟩ := r.get e
    obtain ⟨rfl, y⟩ := y
    have := y vs (.inl (.inr ⟨o, s' _ _ (s _ _ h)⟩))
    rw [e1] at this
    cases this
    exact ⟨F', .refl s', rv.mono s⟩
theorem conf_range {lo : Int} {n : Nat} : Conf K F (Itr lo n) ((List.range n).map fun (i : Nat) => D.int (lo + (i : Int))) := by
  refine ⟨fun i H' hi s => by show i < n; simpa using hi, fun H' s => by show n ≤ _; simp, fun i F' H' x H'' d e s s' y => ?_⟩
  obtain ⟨rfl, rfl⟩ := y
  rw [List.getElem?_map] at e
  obtain ⟨j, e1, rfl⟩ := map_some e
  have : j = i := by
    rw [List.getElem?_range] at e1
    · exact (Option.some.inj e1).symm
    · obtain ⟨h, _⟩ := List.getElem?_eq_some_iff.mp e1
      simpa using h
  subst this
  exact ⟨F', .refl s', .int _⟩
theorem conf_str {x : List Nat} : Conf K F (Its (stO x)) (x.map fun c => D.str [c]) := by
  refine ⟨fun i H' hi s => by show i < x.toArray.size; simpa using hi, fun H' s => by show x.toArray.size ≤ _; simp, fun i F' H' v H'' d e s s' y => ?_⟩
  obtain ⟨rfl, c, hc, rfl⟩ := y
  rw [List.getElem?_map] at e
  obtain ⟨j, e1, rfl⟩ := map_some e
  have hc' : x[i]? = some c := by simpa using hc
  rw [hc'] at e1
  cases e1
  exact ⟨F', .refl s', .str [c]⟩
theorem keysOf_get : ∀ {ks : List D} {l : List Key} {i : Nat} {d : D}, keysOf ks = some l → ks[i]? = some d → ∃ k, l[i]? = some k ∧ d.key = some k
  | [], _, i, d, h, e => by simp at e
  | k :: ks, _, i, d, h, e => by
    obtain ⟨k', r, h1, h2, rfl⟩ := keys_cons h
    cases i with
    | zero => simp at e; subst e; exact ⟨k', rfl, h1⟩
    | succ i => exact keysOf_get (i := i) h2 (by simpa using e)
theorem keysTOf_get : ∀ {ks : List D} {l : List (List Key)} {i : Nat} {d : D}, keysTOf ks = some l → ks[i]? = some d → ∃ k, l[i]? = some k ∧ d.keyT = some k
  | [], _, i, d, h, e => by simp at e
  | k :: ks, _, i, d, h, e => by
    obtain ⟨k', r, h1, h2, rfl⟩ := keysT_cons h
    cases i with
    | zero => simp at e; subst e; exact ⟨k', rfl, h1⟩
    | succ i => exact keysTOf_get (i := i) h2 (by simpa using e)
theorem keysOf_len : ∀ {ks : List D} {l : List Key}, keysOf ks = some l → ks.length = l.length
  | [], _, h => by cases h; rfl
  | k :: ks, _, h => by obtain ⟨k', r, h1, h2, rfl⟩ := keys_cons h; simp [keysOf_len h2]
theorem keysTOf_len : ∀ {ks : List D} {l : List (List Key)}, keysTOf ks = some l → ks.length = l.length
  | [], _, h => by cases h; rfl
  | k :: ks, _, h => by obtain ⟨k', r, h1, h2, rfl⟩ := keysT_cons h; simp [keysTOf_len h2]
theorem key_back {d : D} {k : Key} (h : d.key = some k) : Rep K F (kV k) d := by
  cases d <;> first | (cases h; done) | skip
  · cases h; exact .int _
  · cases h; exact .str _
theorem keys_back : ∀ {ds : List D} {k : List Key}, keysOf ds = some k → RepL K F (k.map kV) ds
  | [], _, h => by cases h; exact .nil
  | d :: ds, _, h => by obtain ⟨k', r, h1, h2, rfl⟩ := keys_cons h; exact .cons (key_back h1) (keys_back h2)
theorem conf_dK {a : Addr} {o : Obj} {kvs : List (Key × V)} {ks : List D} (h : F a = some (.frz o (.dK kvs))) (k : keysOf ks = some (kvs.map (·.1))) : Conf K F (Itk a o kvs) ks := by
  have hl := keysOf_len k
  rw [List.length_map] at hl
  refine ⟨fun i H' hi s => ⟨s _ _ h, by rw [← hl]; exact hi⟩, fun H' s => ⟨s _ _ h, by rw [hl]; exact Nat.le_refl _⟩, fun i F' H' x H'' d e s s' y => ?_⟩
  obtain ⟨rfl, k', v, e1, rfl⟩ := y
  obtain ⟨k2, e2, e3⟩ := keysOf_get k e
  rw [List.getElem?_map, e1] at e2
  cases e2
  exact ⟨F', .refl s', key_back e3⟩
theorem keyT_shape {d : D} {k : List Key} (h : d.keyT = some k) : ∃ ds, d = .tup ds ∧ keysOf ds = some k := by
  cases d <;> first | (cases h; done) | exact ⟨_, rfl, h⟩
end
/-- the items of a value that is walked -/
def D.items : D → Option (List D)
  | .lst ds => some ds
  | .tup ds => some ds
  | .str x => some (x.map fun c => .str [c])
  | .dct false ks _ => some ks
  | .ptp ds => some ds
  | _ => none
section
variable {px : PX} {W : WX} {X : Cx} {pos : Pos} {tg e : Expr}
theorem pi_any {te : TE} (he : PE X e te) : PI X tg e (fun σ H R => te σ H fun x H1 => (∃ a xs, x = .ref a ∧ SqL X.K H1 a xs ∧ R (Itl X.K a) H1) ∨ (∃ a xs, x = .ref a ∧ SqT X.K H1 a xs ∧ R (Itt X.K a) H1) ∨ (∃ z, x = .str z ∧ R (Its z) H1) ∨
    (∃ d o kvs, x = .ref d ∧ H1 d = some (.frz o (.dK kvs)) ∧ R (Itk d o kvs) H1)) := by
  refine ⟨fun pins s σ H R I h => thn (he.run pins s σ H _ I h) fun v s1 ⟨x, H1, I1, r1, q1⟩ => ?_⟩
  rcases q1 with ⟨a, xs, rfl, hq, q⟩ | ⟨a, xs, rfl, hq, q⟩ | ⟨z, rfl, q⟩ | ⟨d, o, kvs, rfl, hd, q⟩
  · cases r1
    obtain ⟨its, rv, p, hz⟩ := I1.list hq
    exact wpAny_pyIter_list p.isList (pi_one (tk := s1.toks) I1 _ (turn_list a _) ⟨_, Heap.get?_push_size _ rfl, rfl, rfl⟩ q)
  · cases r1
    obtain ⟨its, rv, p, hz⟩ := I1.tuple hq
    exact wpAny_pyIter_tuple (show s1.heap.IsTuple a its.toArray from p) (pi_one (tk := s1.toks) I1 _ (turn_tuple a _) ⟨_, Heap.get?_push_size _ rfl, rfl, rfl⟩ q)
  · obtain ⟨t, rfl⟩ := r1
    cases ha : z.cps.all (· < 128)
    · exact wpAny_pyIter_wide ha (pi_one (tk := s1.toks) I1 _ (turn_str _ z t "str_iterator" (.inr rfl)) ⟨_, Heap.get?_push_size _ rfl, rfl, rfl⟩ q)
    · exact wpAny_pyIter_ascii ha (pi_one (tk := s1.toks) I1 _ (turn_str _ z t "str_ascii_iterator" (.inl rfl)) ⟨_, Heap.get?_push_size _ rfl, rfl, rfl⟩ q)
  · cases r1
    obtain ⟨hs, hgd, hx, es, ep, vs, hdt, hsz, kv, hm⟩ := I1.frzK hd
    refine iter_keys hs hgd hx hdt (pi_one (tk := s1.toks) I1 _ (turn_keys _ hdt) ⟨_, Heap.get?_push_size _ rfl, rfl, ?_⟩ q)
    rw [hsz] <;> rfl
def sItems (f : T → Rs D) : T → Rs (List D) := fun τ => (f τ).bind fun d τ1 => match d.items with
  | some ds => .ok ds τ1
  | none => .stuck
theorem ji_any {f : T → Rs D} (h : JE px W X e f) : JI px W X tg e (sItems f) := by
  refine PI.imp (pi_any h) fun σ H R ⟨M, F, τ, s, p⟩ => rdE_bind s p fun d τ1 F1 H1 v g1 s1 rv p1 => ?_
  cases d with
  | lst ds =>
    cases rv with
    | lst h r => exact .inl ⟨_, _, rfl, .of (s1.sub _ _ h), p1 F1 H1 .refl s1 _ (conf_list h r)⟩
  | tup ds =>
    cases rv with
    | tup h r => exact .inr (.inl ⟨_, _, rfl, .of (s1.sub _ _ h), p1 F1 H1 .refl s1 _ (conf_tup h r)⟩)
  | ptp ds =>
    cases rv with
    | ptp h k r => exact .inr (.inl ⟨_, _, rfl, .inl (.inr ⟨_, s1.sub _ _ h⟩), p1 F1 H1 .refl s1 _ (conf_ptp h r)⟩)
  | str x =>
    cases rv
    exact .inr (.inr (.inl ⟨_, rfl, p1 F1 H1 .refl s1 _ conf_str⟩))
  | dct t ks vs =>
    cases rv with
    | dK h k r => exact .inr (.inr (.inr ⟨_, _, _, rfl, s1.sub _ _ h, p1 F1 H1 .refl s1 _ (conf_dK h k)⟩))
    | dT h k r => exact p1.elim
  | _ => exact p1.elim
/-- range(n), range(a, b) -/
def rng (lo : Int) (n : Nat) : List D := (List.range n).map fun (i : Nat) => D.int (lo + (i : Int))
def sRng1 (f : T → Rs (List D)) : T → Rs (List D) := fun τ => (f τ).bind fun ds τ1 => match ds with
  | [.int j] => if j.natAbs < 2 ^ 62 then .ok (rng 0 j.toNat) τ1 else .stuck
  | _ => .stuck
def sRng2 (f : T → Rs (List D)) : T → Rs (List D) := fun τ => (f τ).bind fun ds τ1 => match ds with
  | [.int i, .int j] => if i.natAbs < 2 ^ 62 ∧ j.natAbs < 2 ^ 62 then .ok (rng i (j - i).toNat) τ1 else .stuck
  | _ => .stuck
theorem ji_range1 {a : Expr} {p : Pos} {f : T → Rs (List D)} (hg : Gl X "range") (hm : X.mg "range" = none) (ha : JA px W X [a] f) (hs : starEach [a] X.env = [(false, eval a X.env)]) : JI px W X tg (.Call (.Name "range" p) [a] [] pos) (sRng1 f) := by
  refine PI.imp (pi_range1 hg hm ha hs) fun σ H R ⟨M, F, τ, s, q⟩ => rdA_bind s q fun ds τ1 F1 H1 vs g1 s1 rv p1 => ?_
  cases rv with
  | nil => exact p1.elim
  | cons h r =>
    cases h <;> first | exact p1.elim | skip
    cases r with
    | cons _ _ => exact p1.elim
    | nil =>
      rename_i j
      by_cases c : j.natAbs < 2 ^ 62
      · have p1 : Post X.K px W M F1 H1 σ (if j.natAbs < 2 ^ 62 then Rs.ok (rng 0 j.toNat) τ1 else .stuck) _ := p1
        rw [if_pos c] at p1
        exact ⟨j, rfl, by omega, by omega, p1 F1 H1 .refl s1 _ conf_range⟩
      · have p1 : Post X.K px W M F1 H1 σ (if j.natAbs < 2 ^ 62 then Rs.ok (rng 0 j.toNat) τ1 else .stuck) _ := p1
        rw [if_neg c] at p1; exact p1.elim
theorem ji_range2 {a b : Expr} {p : Pos} {f : T → Rs (List D)} (hg : Gl X "range") (hm : X.mg "range" = none) (ha : JA px W X [a, b] f) (hs : starEach [a, b] X.env = [(false, eval a X.env), (false, eval b X.env)]) (hs2 : starEach [b] X.env = [(false, eval b X.env)]) :
    JI px W X tg (.Call (.Name "range" p) [a, b] [] pos) (sRng2 f) := by
  refine PI.imp (pi_range2 hg hm ha hs hs2) fun σ H R ⟨M, F, τ, s, q⟩ => rdA_bind s q fun ds τ1 F1 H1 vs g1 s1 rv p1 => ?_
  cases rv with
  | nil => exact p1.elim
  | cons h r =>
    cases r with
    | nil => cases h <;> exact p1.elim
    | cons h2 r =>
      cases r with
      | cons _ _ => cases h <;> cases h2 <;> exact p1.elim
      | nil =>
        cases h <;> first | (cases h2 <;> exact p1.elim) | skip
        cases h2 <;> first | exact p1.elim | skip
        rename_i i j
        by_cases c : i.natAbs < 2 ^ 62 ∧ j.natAbs < 2 ^ 62
        · have p1 : Post X.K px W M F1 H1 σ (if i.natAbs < 2 ^ 62 ∧ j.natAbs < 2 ^ 62 then Rs.ok (rng i (j - i).toNat) τ1 else .stuck) _ := p1
          rw [if_pos c] at p1
          exact ⟨i, j, rfl, ⟨by omega, by omega, by omega, by omega⟩, p1 F1 H1 .refl s1 _ conf_range⟩
        · have p1 : Post X.K px W M F1 H1 σ (if i.natAbs < 2 ^ 62 ∧ j.natAbs < 2 ^ 62 then Rs.ok (rng i (j - i).toNat) τ1 else .stuck) _ := p1
          rw [if_neg c] at p1; exact p1.elim
end
end U
end

section
set_option Elab.async false
set_option linter.all false
set_option maxRecDepth 100000
namespace U
open PySem PySem.Spec PyProof.Rows L2

/-! ### targets -/
/-- only the slots gs may change -/
def OnlyAt (gs : List Nat) (σ σ' : St) : Prop := σ'.length = σ.length ∧ ∀ i, i ∉ gs → σ'[i]? = σ[i]?
theorem OnlyAt.refl (gs : List Nat) (σ : St) : OnlyAt gs σ σ := ⟨rfl, fun _ _ => rfl⟩
theorem OnlyAt.trans {gs : List Nat} {σ σ1 σ2 : St} (a : OnlyAt gs σ σ1) (b : OnlyAt gs σ1 σ2) : OnlyAt gs σ σ2 := ⟨b.1.trans a.1, fun i h => (b.2 i h).trans (a.2 i h)⟩
theorem OnlyAt.mono {gs hs : List Nat} {σ σ1 : St} (a : OnlyAt gs σ σ1) (h : ∀ i ∈ gs, i ∈ hs) : OnlyAt hs σ σ1 := ⟨a.1, fun i n => a.2 i fun z => n (h i z)⟩
theorem OnlyAt.set {gs : List Nat} {σ : St} {i : Nat} {v : Option V} (h : i ∈ gs) : OnlyAt gs σ (σ.set i v) := ⟨by simp, fun j n => List.getElem?_set_ne fun e => n (by rw [← e]; exact h)⟩
def rdG (K : PySem.W.Frag) (gs : List Nat) (g : D → T → Option T) : TG := fun v σ H Q => ∃ M F τ d τ', SRel K M F H σ τ ∧ Rep K F v d ∧ g d τ = some τ' ∧ ∀ σ', OnlyAt gs σ σ' → SRel K M F H σ' τ' → Q σ' H
def rdGs (K : PySem.W.Frag) (gs : List Nat) (g : List D → T → Option T) : TGs := fun vs σ H Q => ∃ M F τ ds τ', SRel K M F H σ τ ∧ RepL K F vs ds ∧ g ds τ = some τ' ∧ ∀ σ', OnlyAt gs σ σ' → SRel K M F H σ' τ' → Q σ' H
def JG (X : Cx) (tg : Expr) (gs : List Nat) (g : D → T → Option T) : Prop := PG X tg (rdG X.K gs g)
def JGs (X : Cx) (ts : List Expr) (gs : List Nat) (g : List D → T → Option T) : Prop := PGs X ts (rdGs X.K gs g)
theorem PG.imp {X : Cx} {tg : Expr} {t t' : TG} (h : PG X tg t) (i : ∀ v σ H Q, t' v σ H Q → t v σ H Q) : PG X tg t' := ⟨fun pins s σ H v u Q I r q => h.run pins s σ H v u Q I r (i _ _ _ _ q)⟩
theorem PGs.imp {X : Cx} {tg : List Expr} {t t' : TGs} (h : PGs X tg t) (i : ∀ v σ H Q, t' v σ H Q → t v σ H Q) : PGs X tg t' := ⟨fun pins s σ H v u Q I r q => h.run pins s σ H v u Q I r (i _ _ _ _ q)⟩
theorem PG.or {X : Cx} {tg : Expr} {t t' : TG} (h : PG X tg t) (h' : PG X tg t') : PG X tg (fun v σ H Q => t v σ H Q ∨ t' v σ H Q) := ⟨fun pins s σ H v u Q I r q => by
  rcases q with q | q
  · exact h.run pins s σ H v u Q I r q
  · exact h'.run pins s σ H v u Q I r q⟩
def gNm (i : Nat) : D → T → Option T := fun d τ => if notIo τ i then some (τ.set i (.val d)) else none
def gN0 : List D → T → Option T := fun ds τ => match ds with
  | [] => some τ
  | _ => none
def gN1 (g : D → T → Option T) (h : List D → T → Option T) : List D → T → Option T := fun ds τ => match ds with
  | d :: r => (match g d τ with | some τ1 => h r τ1 | none => none)
  | [] => none
def gTp (n : Nat) (h : List D → T → Option T) : D → T → Option T := fun d τ => match d with
  | .tup ds => if ds.length = n then h ds τ else none
  | .lst ds => if ds.length = n then h ds τ else none
  | _ => none
section
variable {X : Cx} {pos : Pos}
theorem jg_name {i : Nat} {x : Str} {gs : List Nat} (h : PG X (.Name x pos) (gName i)) (hi : i ∈ gs) : JG X (.Name x pos) gs (gNm i) :=
  PG.imp h fun v σ H Q ⟨M, F, τ, d, τ', s, r, e, q⟩ => by
    obtain ⟨c, rfl⟩ := ite_some e
    exact q _ (.set hi) (s.setv c r)
theorem jgs_nil {gs : List Nat} : JGs X [] gs gN0 := PGs.imp pgs_nil fun vs σ H Q ⟨M, F, τ, ds, τ', s, r, e, q⟩ => by
  cases ds with
  | cons _ _ => cases e
  | nil => cases r; cases e; exact ⟨rfl, q σ (.refl _ _) s⟩
theorem jgs_cons {gs : List Nat} {e : Expr} {es : List Expr} {g : D → T → Option T} {h : List D → T → Option T} (h1 : JG X e gs g) (h2 : JGs X es gs h) (hs : (assignEach (e :: es) X.env).map (·.2) = assign e X.env :: (assignEach es X.env).map (·.2)) :
    JGs X (e :: es) gs (gN1 g h) := PGs.imp (pgs_cons h1 h2 hs) fun vs σ H Q ⟨M, F, τ, ds, τ', s, r, e, q⟩ => by
  cases r with
  | nil => cases e
  | @cons v vs d ds rd rr =>
    have e : (match g d τ with | some τ1 => h ds τ1 | none => none) = some τ' := e
    cases e1 : g d τ with
    | none => rw [e1] at e; cases e
    | some τ1 =>
      rw [e1] at e
      exact ⟨v, vs, rfl, M, F, τ, d, τ1, s, rd, e1, fun σ1 o1 s1 => ⟨M, F, τ1, ds, τ', s1, rr, e, fun σ2 o2 s2 => q σ2 (o1.trans o2) s2⟩⟩
theorem jg_tup {gs : List Nat} {es : List Expr} {k n : Nat} {h : List D → T → Option T} (hc : X.calm = true) (hh : JGs X es gs h) (hn : (assignEach es X.env).length = n) (hst : (assignEach es X.env).findIdx? (·.1) = none) : JG X (.Tuple es k pos) gs (gTp n h) :=
  PG.imp (PG.or (pg_tup hc hh hn hst) (pg_unl hc hh hn hst)) fun v σ H Q ⟨M, F, τ, d, τ', s, r, e, q⟩ => by
    cases d <;> first | (cases e; done) | skip
    · rename_i ds
      have e : (if ds.length = n then h ds τ else none) = some τ' := e
      by_cases c : ds.length = n
      · rw [if_pos c] at e
        cases r with
        | tup ha ra => exact .inl ⟨_, _, rfl, .of (s.sub _ _ ha), by rw [ra.length]; exact c, M, F, τ, ds, τ', s, ra, e, q⟩
      · rw [if_neg c] at e; cases e
    · rename_i ds
      have e : (if ds.length = n then h ds τ else none) = some τ' := e
      by_cases c : ds.length = n
      · rw [if_pos c] at e
        cases r with
        | lst ha ra => exact .inr ⟨_, _, rfl, .of (s.sub _ _ ha), by rw [ra.length]; exact c, M, F, τ, ds, τ', s, ra, e, q⟩
      · rw [if_neg c] at e; cases e
end

/-! ### for -/
def forL (body : D → T → SR) : List D → T → SR
  | [], τ => .nx τ
  | d :: ds, τ => match body d τ with
    | .nx τ' => forL body ds τ'
    | .ct τ' => forL body ds τ'
    | .bk τ' => .nx τ'
    | m => m
def sBody (g : D → T → Option T) (b : T → SR) : D → T → SR := fun d τ => match g d τ with
  | some τ' => b τ'
  | none => .stuck
def sFor (it : T → Rs (List D)) (g : D → T → Option T) (b : T → SR) : T → SR := fun τ => (it τ).s fun ds τ1 => forL (sBody g b) ds τ1
section
variable {px : PX} {W : WX} {X : Cx} {pos : Pos} {tg iter : Expr} {body : List Stmt}
theorem js_for {gs : List Nat} {fi : T → Rs (List D)} {g : D → T → Option T} {b : T → SR} (hp : PassesOwn (model X.prog X.w) X.A X.env X.xe) (hc : X.calm = true) (hi : JI px W X tg iter fi) (hg : JG X tg gs g) (hb : JSs px W X body b)
    (hs : ∀ x, foldedSetIterable iter X.env x = pure x) : JS px W X (.For tg iter body [] pos) (sFor fi g b) := by
  refine PS.imp (ps_for hp hc hi hg hb hs) fun D σ H ⟨M, F, τ, s, p⟩ => ⟨M, F, τ, s, p.bind.imp fun ds τ1 F1 H1 g1 s1 p1 J cf => ?_⟩
  refine ⟨fun i m σ' H' => ∃ F' τ', m = ds.length - i ∧ i ≤ ds.length ∧ Sub F1 F' ∧ SRel X.K M F' H' σ' τ' ∧ SPost X.K px W M F' H' D (forL (sBody g b) (ds.drop i) τ'),
    ⟨ds.length, F1, τ1, by simp, Nat.zero_le _, Sub.refl _, s1, p1⟩, ?_⟩
  rintro i m σ' H' ⟨F', τ', rfl, hi, sf, s', p'⟩
  by_cases hlt : i < ds.length
  · refine .inr ⟨cf.go i H' hlt (sf.trans s'.sub), fun σ3 H3 => ∃ F3 τ3, Sub F1 F3 ∧ SRel X.K M F3 H3 σ3 τ3 ∧ SPost X.K px W M F3 H3 D (forL (sBody g b) (ds.drop (i + 1)) τ3), fun σ3 H3 ⟨F3, τ3, a1, a2, a3⟩ => ⟨ds.length - (i + 1), by omega, F3, τ3, rfl, hlt, a1, a2, a3⟩, fun x H2 y => ?_⟩
    have hd : ds[i]? = some ds[i] := by simp [hlt]
    obtain ⟨F2, n2, r2⟩ := cf.yld i F' H' x H2 _ hd sf s'.sub y
    have s2 := n2.srel s'
    rw [List.drop_eq_getElem_cons hlt] at p'
    have p2 := SPost.from p' (n2.grow (M := M))
    unfold forL at p2
    cases eg : g ds[i] τ' with
    | none => simp only [sBody, eg] at p2; exact p2.elim
    | some τ2 =>
      simp only [sBody, eg] at p2
      refine ⟨M, F2, τ', ds[i], τ2, s2, r2, eg, fun σ2 o2 s2' => ⟨M, F2, τ2, s2', ?_⟩⟩
      have sf2 : Sub F1 F2 := sf.trans n2.frz
      cases eb : b τ2 with
      | nx t => simp only [eb] at p2; exact fun σ3 F3 H3 g3 s3 => ⟨F3, t, sf2.trans g3.frz, s3, SPost.from p2 g3⟩
      | ct t => simp only [eb] at p2; exact fun σ3 F3 H3 g3 s3 => ⟨F3, t, sf2.trans g3.frz, s3, SPost.from p2 g3⟩
      | bk t => simp only [eb] at p2; exact p2
      | rt r t => simp only [eb] at p2; cases r <;> exact p2
      | exc x t => simp only [eb] at p2; exact p2
      | stuck => simp only [eb] at p2; exact p2.elim
  · have e : i = ds.length := by omega
    subst e
    rw [List.drop_length] at p'
    exact .inl ⟨cf.stop H' (sf.trans s'.sub), p' σ' F' H' .refl s'⟩

/-! ### while -/
def whileL (t : T → Rs Bool) (b : T → SR) : Nat → T → SR
  | 0, _ => .stuck
  | n + 1, τ => match t τ with
    | .ok true τ1 => (match b τ1 with
      | .nx τ' => whileL t b n τ'
      | .ct τ' => whileL t b n τ'
      | .bk τ' => .nx τ'
      | m => m)
    | .ok false τ1 => .nx τ1
    | .exc x τ1 => .exc x τ1
    | .stuck => .stuck
def fuel : Nat := 100000
def sWhile (t : T → Rs Bool) (b : T → SR) : T → SR := fun τ => whileL t b fuel τ
theorem js_while {c : Expr} {t : T → Rs Bool} {b : T → SR} (hp : PassesOwn (model X.prog X.w) X.A X.env X.xe) (hc : JT px W X c t) (hb : JSs px W X body b) : JS px W X (.While c body [] pos) (sWhile t b) := by
  refine PS.imp (ps_while hp hc hb) fun D σ H ⟨M, F, τ, s, p⟩ => ?_
  refine ⟨fun m σ' H' => ∃ F' τ', SRel X.K M F' H' σ' τ' ∧ SPost X.K px W M F' H' D (whileL t b m τ'), ⟨fuel, F, τ, s, p⟩, ?_⟩
  rintro m σ' H' ⟨F', τ', s', p'⟩
  cases m with
  | zero => exact p'.elim
  | succ n =>
    refine ⟨M, F', τ', s', ?_⟩
    unfold whileL at p'
    cases et : t τ' with
    | stuck => simp only [et] at p'; exact p'.elim
    | exc x τ1 => simp only [et] at p'; exact fun F1 H1 g1 s1 => p' _ F1 H1 g1 s1
    | ok k τ1 =>
      cases k with
      | false => simp only [et] at p'; exact fun F1 H1 g1 s1 => by show (if false = true then _ else _); rw [if_neg Bool.false_ne_true]; exact p' _ F1 H1 g1 s1
      | true =>
        simp only [et] at p'
        intro F1 H1 g1 s1
        show (if true = true then _ else _)
        rw [if_pos rfl]
        refine ⟨fun σ3 H3 => ∃ F3 τ3, SRel X.K M F3 H3 σ3 τ3 ∧ SPost X.K px W M F3 H3 D (whileL t b n τ3), fun σ3 H3 ⟨F3, τ3, a2, a3⟩ => ⟨n, Nat.lt_succ_self _, F3, τ3, a2, a3⟩, M, F1, τ1, s1, ?_⟩
        have p2 := SPost.from p' g1
        cases eb : b τ1 with
        | nx t => simp only [eb] at p2; exact fun σ3 F3 H3 g3 s3 => ⟨F3, t, s3, SPost.from p2 g3⟩
        | ct t => simp only [eb] at p2; exact fun σ3 F3 H3 g3 s3 => ⟨F3, t, s3, SPost.from p2 g3⟩
        | bk t => simp only [eb] at p2; exact p2
        | rt r t => simp only [eb] at p2; cases r <;> exact p2
        | exc x t => simp only [eb] at p2; exact p2
        | stuck => simp only [eb] at p2; exact p2.elim
end
end U
end

section
set_option Elab.async false
set_option linter.all false
set_option maxRecDepth 100000
namespace U
open PySem PySem.Spec PyProof.Rows L2

/-! ### comprehensions -/
theorem SRel.revive {K : PySem.W.Frag} {M : MS} {F H : Hp} {σ : St} {τ : T} {i : Nat} {v : V} {d : D} (s : SRel K M F H σ (τ.set i .no)) (hv : σ[i]? = some (some v)) (r : Rep K F v d) : SRel K M F H σ (τ.set i (.val d)) := by
  have at_ : ∀ {j : Nat} {sl : Sl}, (τ.set i (.val d))[j]? = some sl → sl ≠ .val d ∨ j ≠ i → j ≠ i ∧ (τ.set i .no)[j]? = some sl := fun {j sl} e n => by
    rcases get_set e with ⟨rfl, q, _⟩ | ⟨q, e⟩
    · rcases n with n | n
      · exact absurd q n
      · exact absurd rfl n
    · exact ⟨q, by rw [List.getElem?_set_ne (Ne.symm q)]; exact e⟩
  refine ⟨by simpa using s.len, s.up, s.sub, fun j d' e => ?_, fun j sl ov e1 e2 => ?_, fun j k sl tl b e1 m1 e2 m2 f1 f2 => ?_, fun j o e => ?_⟩
  · by_cases c : j = i
    · subst c
      rcases get_set e with ⟨_, q, _⟩ | ⟨q, _⟩
      · cases q; exact ⟨v, hv, r⟩
      · exact absurd rfl q
    · exact s.val j d' (at_ e (.inr c)).2
  · exact s.own j sl ov (at_ e1 (.inl fun z => by subst z; cases e2)).2 e2
  · exact s.apart j k sl tl b (at_ e1 (.inl fun z => by subst z; exact m1 rfl)).2 m1 (at_ e2 (.inl fun z => by subst z; exact m2 rfl)).2 m2 f1 f2
  · exact s.io j o (at_ e (.inl fun z => nomatch z)).2
def wipeT (τ : T) : List Nat → T
  | [] => τ
  | v :: vs => (wipeT τ vs).set v .no
section
variable {K : PySem.W.Frag} {px : PX} {W : WX} {M : MS} {F H F1 H1 : Hp} {σ : St} {τ : T}
theorem SRel.none1 (s : SRel K M F H σ τ) (i : Nat) : SRel K M F H (σ.set i none) (τ.set i .no) := by
  have s' := s.drop i
  have ne : ∀ {j : Nat} {sl : Sl}, (τ.set i .no)[j]? = some sl → sl ≠ .no → (σ.set i none)[j]? = σ[j]? := fun {j sl} e n => by
    rcases get_set e with ⟨rfl, q, _⟩ | ⟨q, _⟩
    · exact absurd q n
    · exact List.getElem?_set_ne (Ne.symm q)
  refine ⟨by simpa using s.len, s.up, s.sub, fun j d e => ?_, fun j sl ov e1 e2 => ?_, fun j k sl tl b e1 m1 e2 m2 f1 f2 => ?_, fun j o e => ?_⟩
  · rw [ne e (fun z => nomatch z)]; exact s'.val j d e
  · rw [ne e1 (fun z => by subst z; cases e2)]; exact s'.own j sl ov e1 e2
  · rw [ne e1 (fun z => by subst z; exact m1 rfl)] at f1
    rw [ne e2 (fun z => by subst z; exact m2 rfl)] at f2
    exact s'.apart j k sl tl b e1 m1 e2 m2 f1 f2
  · rw [ne e (fun z => nomatch z)]; exact s'.io j o e
theorem SRel.wiped (s : SRel K M F H σ τ) : ∀ vs : List Nat, SRel K M F H (wipe σ vs) (wipeT τ vs)
  | [] => s
  | v :: vs => (s.wiped vs).none1 v
theorem wipeT_length (τ : T) : ∀ vs : List Nat, (wipeT τ vs).length = τ.length
  | [] => rfl
  | v :: vs => by unfold wipeT; rw [List.length_set, wipeT_length τ vs]
theorem wipeT_get {τ : T} {i : Nat} {sl : Sl} : ∀ {vs : List Nat}, (wipeT τ vs)[i]? = some sl → sl ≠ .no → i ∉ vs
  | [], _, _ => by simp
  | v :: vs, h, n => by
    unfold wipeT at h
    rcases get_set h with ⟨rfl, q, _⟩ | ⟨q, h⟩
    · exact absurd q n
    · simp only [List.mem_cons, not_or]
      exact ⟨q, wipeT_get h n⟩
/-- back to the def's own slots -/
theorem SRel.unwipe {vs : List Nat} {τ' : T} (s : SRel K M F H (wipe σ vs) τ') (hw : ∀ (i : Nat) (sl : Sl), τ'[i]? = some sl → sl ≠ .no → i ∉ vs) : SRel K M F H σ τ' := by
  have hl : (wipe σ vs).length = σ.length := wipe_length σ vs
  have at_ : ∀ {i : Nat} {sl : Sl}, τ'[i]? = some sl → sl ≠ .no → (wipe σ vs)[i]? = σ[i]? := fun {i sl} e n => wipe_out (hw i sl e n)
  refine ⟨by rw [← hl]; exact s.len, s.up, s.sub, fun j d e => ?_, fun j sl ov e1 e2 => ?_, fun j k sl tl b e1 m1 e2 m2 f1 f2 => ?_, fun j o e => ?_⟩
  · rw [← at_ e (fun z => nomatch z)]; exact s.val j d e
  · rw [← at_ e1 (fun z => by subst z; cases e2)]; exact s.own j sl ov e1 e2
  · rw [← at_ e1 (fun z => by subst z; exact m1 rfl)] at f1
    rw [← at_ e2 (fun z => by subst z; exact m2 rfl)] at f2
    exact s.apart j k sl tl b e1 m1 e2 m2 f1 f2
  · rw [← at_ e (fun z => nomatch z)]; exact s.io j o e
/-- without the list that is being made -/
def MS.but (M : MS) (a : Addr) : MS := ⟨fun b => M.m b ∧ b ≠ a, M.ad⟩
theorem SRel.but {a : Addr} {u : HO} (s : SRel K M F H σ τ) (ha : H a = some u) (hx : ∀ (i : Nat) (sl : Sl), τ[i]? = some sl → sl.mut ≠ none → σ[i]? ≠ some (some (V.ref a))) : SRel K (M.but a) F H σ τ :=
  ⟨s.len, fun b e => ⟨s.up b e, fun z => by rw [z, ha] at e; cases e⟩, s.sub, s.val, fun i sl o e1 e2 => by
    obtain ⟨b, w, h1, h2, h3, h4, h5⟩ := s.own i sl o e1 e2
    exact ⟨b, w, h1, h2, h3, ⟨h4, fun z => hx i sl e1 (by rw [e2]; exact fun z => nomatch z) (by rw [← z]; exact h1)⟩, h5⟩, s.apart, s.io⟩
theorem SRel.unbut {a : Addr} (s : SRel K (M.but a) F H σ τ) : SRel K M F H σ τ :=
  ⟨s.len, fun b e => (s.up b e).1, s.sub, s.val, fun i sl o e1 e2 => by
    obtain ⟨b, w, h1, h2, h3, h4, h5⟩ := s.own i sl o e1 e2
    exact ⟨b, w, h1, h2, h3, h4.1, h5⟩, s.apart, s.io⟩
theorem Grow.unbut {a : Addr} (g : Grow (M.but a) F H F1 H1) : Grow M F H F1 H1 := g.mono fun _ h => h.1
/-- the made list grows: a step outside of what the block may change -/
theorem but_step {a : Addr} {u u' : HO} (hu : H a = some u) (hm : M.m a) : Grow M F H F (upd H a u') := by
  refine ⟨fun b q => ?_, Sub.refl _, fun b w q n => ?_, fun b q _ _ => q⟩
  · by_cases c : b = a
    · rw [c, upd_same] at q; cases q
    · rw [upd_ne c] at q; exact q
  · rw [upd_ne (fun c => n (by rw [c]; exact hm))]; exact q
theorem SRel.butStep {a : Addr} {u u' : HO} (s : SRel K (M.but a) F H σ τ) (hu : H a = some u) (hf : F a = none) : SRel K (M.but a) F (upd H a u') σ τ := by
  refine ⟨s.len, fun b e => ?_, fun b w e => ?_, s.val, fun i sl o e1 e2 => ?_, s.apart, s.io⟩
  · by_cases c : b = a
    · rw [c, upd_same] at e; cases e
    · rw [upd_ne c] at e; exact s.up b e
  · rw [upd_ne (fun c => by rw [c, hf] at e; cases e)]; exact s.sub b w e
  · obtain ⟨b, w, h1, h2, h3, h4, h5⟩ := s.own i sl o e1 e2
    exact ⟨b, w, h1, by rw [upd_ne h4.2]; exact h2, h3, h4, h5⟩
end
def W0 : WX := fun _ _ _ _ => False
/-- one turn: what is put in, if anything; no exception leaves -/
def turnC (g : D → T → Option T) (tt : T → Rs Bool) (el : T → Rs D) (vs : List Nat) : D → T → Rs (Option D) := fun d τ => match g d τ with
  | none => .stuck
  | some τ1 => match tt τ1 with
    | .ok false τ2 => .ok none (wipeT τ2 vs)
    | .ok true τ2 => (match el τ2 with
      | .ok z τ3 => .ok (some z) (wipeT τ3 vs)
      | _ => .stuck)
    | _ => .stuck
def compL (f : D → T → Rs (Option D)) : List D → T → List D → Rs (List D)
  | [], τ, acc => .ok acc τ
  | d :: ds, τ, acc => match f d τ with
    | .ok (some z) τ1 => if acc.length < lim then compL f ds τ1 (acc ++ [z]) else .stuck
    | .ok none τ1 => compL f ds τ1 acc
    | _ => .stuck
/-- the def's own values of those names come back -/
def restT (τ1 : T) : List Nat → T → T
  | [], τ => τ
  | v :: vs, τ => match τ1[v]? with
    | some (.val d) => (restT τ1 vs τ).set v (.val d)
    | _ => restT τ1 vs τ
theorem SRel.rest {K : PySem.W.Frag} {M : MS} {F1 H1 F H : Hp} {σ : St} {τ1 τ : T} (s1 : SRel K M F1 H1 σ τ1) (e : Sub F1 F) (s : SRel K M F H σ τ) : ∀ vs : List Nat, SRel K M F H σ (restT τ1 vs τ)
  | [] => s
  | v :: vs => by
    have ih := SRel.rest s1 e s vs
    unfold restT
    cases q : τ1[v]? with
    | none => exact ih
    | some sl =>
      cases sl with
      | val d =>
        obtain ⟨x, h1, r⟩ := s1.val v d q
        exact (ih.drop v).revive h1 (r.mono e)
      | _ => exact ih
theorem rest_mut {τ1 τ : T} {i : Nat} {sl : Sl} : ∀ vs : List Nat, (restT τ1 vs τ)[i]? = some sl → sl.mut ≠ none → τ[i]? = some sl ∧ True
  | [], h, m => ⟨h, trivial⟩
  | v :: vs, h, m => by
    unfold restT at h
    cases q : τ1[v]? with
    | none => rw [q] at h; exact rest_mut vs h m
    | some s =>
      rw [q] at h
      cases s with
      | val d =>
        rcases get_set h with ⟨rfl, q, _⟩ | ⟨_, h⟩
        · subst q; exact absurd rfl m
        · exact rest_mut vs h m
      | _ => exact rest_mut vs h m
def sLc (fi : T → Rs (List D)) (g : D → T → Option T) (tt : T → Rs Bool) (el : T → Rs D) (vs : List Nat) : T → Rs PR := fun τ => (fi τ).bind fun ds τ1 => (compL (turnC g tt el vs) ds (wipeT τ1 vs) []).bind fun acc τ2 => .ok (.o (.l acc)) (restT τ1 vs τ2)
theorem lim_lt {n : Nat} (h : n < lim) : n < sizeLine := Nat.lt_of_lt_of_le h (by rw [sizeLine_eq]; decide)
/-- the tests of a clause -/
def JTs (px : PX) (W : WX) (X : Cx) (ifs : List Expr) (f : T → Rs Bool) : Prop := PTs X ifs (rdT X.K px W f)
theorem PTs.imp {X : Cx} {ifs : List Expr} {t t' : TT} (h : PTs X ifs t) (i : ∀ σ H Q, t' σ H Q → t σ H Q) : PTs X ifs t' := ⟨fun pins s σ H Q I q => h.run pins s σ H Q I (i _ _ _ q)⟩
theorem jts_nil {px : PX} {W : WX} {X : Cx} : JTs px W X [] (fun τ => .ok true τ) := PTs.imp pts_nil fun σ H Q ⟨M, F, τ, s, p⟩ => p F H .refl s
theorem jts_one {px : PX} {W : WX} {X : Cx} {c : Expr} {f : T → Rs Bool} (h : JT px W X c f) : JTs px W X [c] f := pts_one h
/-- what compL leaves -/
theorem compL_wiped {g : D → T → Option T} {tt : T → Rs Bool} {el : T → Rs D} {vs : List Nat} : ∀ (ds : List D) (τ : T) (acc out : List D) (τ' : T), (∀ (i : Nat) (sl : Sl), τ[i]? = some sl → sl ≠ .no → i ∉ vs) →
    compL (turnC g tt el vs) ds τ acc = .ok out τ' → ∀ (i : Nat) (sl : Sl), τ'[i]? = some sl → sl ≠ .no → i ∉ vs
  | [], τ, acc, out, τ', h, e => by
    cases e; exact h
  | d :: ds, τ, acc, out, τ', h, e => by
    unfold compL at e
    cases q : turnC g tt el vs d τ with
    | stuck => rw [q] at e; cases e
    | exc x t => rw [q] at e; cases e
    | ok z t =>
      have hw : ∀ (i : Nat) (sl : Sl), t[i]? = some sl → sl ≠ .no → i ∉ vs := by
        unfold turnC at q
        cases e1 : g d τ with
        | none => rw [e1] at q; cases q
        | some τ1 =>
          simp only [e1] at q
          cases e2 : tt τ1 with
          | stuck => rw [e2] at q; cases q
          | exc x t => rw [e2] at q; cases q
          | ok b τ2 =>
            rw [e2] at q
            cases b with
            | false => cases q; exact fun i sl a b => wipeT_get a b
            | true =>
              simp only at q
              cases e3 : el τ2 with
              | stuck => rw [e3] at q; cases q
              | exc x t => rw [e3] at q; cases q
              | ok z τ3 => rw [e3] at q; cases q; exact fun i sl a b => wipeT_get a b
      cases z with
      | none => rw [q] at e; exact compL_wiped ds t acc out τ' hw e
      | some z =>
        simp only [q] at e
        by_cases c : acc.length < lim
        · rw [if_pos c] at e; exact compL_wiped ds t _ out τ' hw e
        · rw [if_neg c] at e; cases e
theorem compL_noexc {f : D → T → Rs (Option D)} : ∀ (ds : List D) (τ : T) (acc : List D) (x : Ex) (t : T), compL f ds τ acc ≠ .exc x t
  | [], τ, acc, x, t, e => by cases e
  | d :: ds, τ, acc, x, t, e => by
    unfold compL at e
    cases q : f d τ with
    | stuck => rw [q] at e; cases e
    | exc x t => rw [q] at e; cases e
    | ok z t' =>
      cases z with
      | none => rw [q] at e; exact compL_noexc ds t' acc x t e
      | some z =>
        simp only [q] at e
        by_cases c : acc.length < lim
        · rw [if_pos c] at e; exact compL_noexc ds t' _ x t e
        · rw [if_neg c] at e; cases e
section
variable {px : PX} {W : WX} {X : Cx} {pos : Pos} {tg iter elt : Expr} {ifs : List Expr} {scope : Scope} {own : List (Str × Nat)}
theorem rd_lc {fi : T → Rs (List D)} {g : D → T → Option T} {tt : T → Rs Bool} {el : T → Rs D} {σ : St} {H : Hp} {Q : VK} {K : PySem.W.Frag} {vs : List Nat} (h : rdX K px W (sLc fi g tt el vs) σ H Q) :
    tLc (rdI K px W fi) (rdG K vs g) (rdT K px W0 tt) (rdE K px W0 el) vs σ H Q := by
  obtain ⟨M, F, τ, s, p⟩ := h
  refine ⟨M, F, τ, s, p.bind.imp fun ds τ1 F1 H1 g1 s1 p1 J cf => fun A hA => ?_⟩
  cases ec : compL (turnC g tt el vs) ds (wipeT τ1 vs) [] with
  | stuck => rw [ec] at p1; exact p1.elim
  | exc x t => exact absurd ec (compL_noexc _ _ _ _ _)
  | ok out τo =>
    rw [ec] at p1
    have p1 : Post K px W M F1 H1 σ (.ok (.o (.l out)) (restT τ1 vs τo)) (RX K M σ Q) := p1
    have hwo := compL_wiped ds _ _ out τo (fun i sl a b => wipeT_get a b) ec
    have hf1 : F1 A = none := s1.new (o := .lst []) hA
    have fo := s1.fresh_own (u := .lst []) (o := .l []) hA (.l .nil)
    refine ⟨fun i m H' => ∃ F' τ' acc accV, m = ds.length - i ∧ i ≤ ds.length ∧ Sub F1 F' ∧ Grow M F1 H1 F' H' ∧ SRel K (M.but A) F' H' (wipe σ vs) τ' ∧ H' A = some (.lst accV) ∧ F' A = none ∧ RepL K F' accV acc ∧ (∀ (i : Nat) (sl : Sl), τ'[i]? = some sl → sl ≠ .no → i ∉ vs) ∧
      compL (turnC g tt el vs) (ds.drop i) τ' acc = .ok out τo, ⟨ds.length, F1, wipeT τ1 vs, [], [], by simp, Nat.zero_le _, Sub.refl _, grow_alloc hA, ?_, upd_same, hf1, .nil, fun i sl a b => wipeT_get a b, ec⟩, ?_⟩
    · refine SRel.but (u := .lst []) ((s1.alloc hA).wiped vs) upd_same fun i sl e m z => ?_
      obtain ⟨a', u, e', _, _, _, _, hx⟩ := fo
      cases e'
      have hn : i ∉ vs := wipeT_get e fun q => by subst q; exact m rfl
      have hz : σ[i]? = some (some (V.ref A)) := (wipe_some z).1
      obtain ⟨o, hm⟩ := Option.ne_none_iff_exists'.mp m
      have hs := (s1.alloc (o := .lst []) hA).wiped vs
      obtain ⟨b, w, h1, h2, h3, h4, h5⟩ := (s1.wiped vs).own i sl o e hm
      rw [h1] at z
      cases z
      rw [hA] at h2
      cases h2
    · rintro i m H' ⟨F', τ', acc, accV, rfl, hi, sf, gg, s', hA', hf', ra, hw, hc⟩
      by_cases hlt : i < ds.length
      · refine .inr ⟨cf.go i H' hlt (sf.trans s'.sub), fun H3 => ∃ F3 τ3 acc3 accV3, Sub F1 F3 ∧ Grow M F1 H1 F3 H3 ∧ SRel K (M.but A) F3 H3 (wipe σ vs) τ3 ∧ H3 A = some (.lst accV3) ∧ F3 A = none ∧ RepL K F3 accV3 acc3 ∧ (∀ (i : Nat) (sl : Sl), τ3[i]? = some sl → sl ≠ .no → i ∉ vs) ∧ compL (turnC g tt el vs) (ds.drop (i + 1)) τ3 acc3 = .ok out τo,
          fun H3 ⟨F3, τ3, c3, v3, a1, a2, a3, a4, a5, a6, a7, a8⟩ => ⟨ds.length - (i + 1), by omega, F3, τ3, c3, v3, rfl, hlt, a1, a2, a3, a4, a5, a6, a7, a8⟩, fun x H2 y => ?_⟩
        have hd : ds[i]? = some ds[i] := by simp [hlt]
        obtain ⟨F2, n2, r2⟩ := cf.yld i F' H' x H2 _ hd sf s'.sub y
        have s2 := n2.srel s'
        rw [List.drop_eq_getElem_cons hlt] at hc
        unfold compL at hc
        cases eg : g ds[i] τ' with
        | none => simp only [turnC, eg] at hc; cases hc
        | some τ2 =>
          simp only [turnC, eg] at hc
          refine ⟨M.but A, F2, τ', ds[i], τ2, s2, r2, eg, fun σ2 o2 s2' => ⟨?_, M.but A, F2, τ2, s2', ?_⟩⟩
          · apply List.ext_getElem?
            intro j
            by_cases hj : j ∈ vs
            · by_cases hl : j < σ.length
              · have e1 : ∀ σ' : St, j < σ'.length → (wipe σ' vs)[j]? = some none := fun σ' hl' => by
                  cases q : (wipe σ' vs)[j]? with
                  | none => rw [List.getElem?_eq_none_iff, wipe_length] at q; omega
                  | some v => cases v with
                    | none => rfl
                    | some v => exact absurd hj (wipe_some q).2
                have hl2 : σ2.length = σ.length := by rw [o2.1, wipe_length]
                rw [e1 σ hl, e1 σ2 (by omega)]
              · have hl2 : σ2.length = σ.length := by rw [o2.1, wipe_length]
                rw [List.getElem?_eq_none (by rw [wipe_length]; omega), List.getElem?_eq_none (by rw [wipe_length]; omega)]
            · rw [wipe_out hj, o2.2 j hj]
          · cases et : tt τ2 with
            | stuck => simp only [et] at hc; cases hc
            | exc x t => simp only [et] at hc; cases hc
            | ok k τ3 =>
              intro F3 H3 g3 s3
              have wp2 : wipe σ2 vs = wipe σ vs := by
                apply List.ext_getElem?
                intro j
                by_cases hj : j ∈ vs
                · by_cases hl : j < σ.length
                  · have e1 : ∀ σ' : St, j < σ'.length → (wipe σ' vs)[j]? = some none := fun σ' hl' => by
                      cases q : (wipe σ' vs)[j]? with
                      | none => rw [List.getElem?_eq_none_iff, wipe_length] at q; omega
                      | some v => cases v with
                        | none => rfl
                        | some v => exact absurd hj (wipe_some q).2
                    have hl2 : σ2.length = σ.length := by rw [o2.1, wipe_length]
                    rw [e1 σ hl, e1 σ2 (by omega)]
                  · have hl2 : σ2.length = σ.length := by rw [o2.1, wipe_length]
                    rw [List.getElem?_eq_none (by rw [wipe_length]; omega), List.getElem?_eq_none (by rw [wipe_length]; omega)]
                · rw [wipe_out hj, o2.2 j hj]
              have hnA : ¬ (M.but A).m A := fun z => z.2 rfl
              have G3 : Grow M F1 H1 F3 H3 := gg.trans ((n2.grow (M := M)).trans g3.unbut)
              have hA2 : H2 A = some (.lst accV) := n2.keep _ _ hA'
              have hA3 : H3 A = some (.lst accV) := g3.keep A _ hA2 hnA
              have hf2 : F2 A = none := n2.free A hf' (by rw [hA']; exact fun z => nomatch z)
              have hf3 : F3 A = none := g3.free A hf2 (by rw [hA2]; exact fun z => nomatch z) hnA
              have ra3 : RepL K F3 accV acc := ra.mono (n2.frz.trans g3.frz)
              have sf3 : Sub F1 F3 := sf.trans (n2.frz.trans g3.frz)
              cases k with
              | false =>
                simp only [et] at hc
                show (if false = true then _ else _)
                rw [if_neg Bool.false_ne_true]
                exact ⟨F3, wipeT τ3 vs, acc, accV, sf3, G3, by rw [← wp2]; exact s3.wiped vs, hA3, hf3, ra3, fun i sl a b => wipeT_get a b, hc⟩
              | true =>
                show (if true = true then _ else _)
                rw [if_pos rfl]
                cases ee : el τ3 with
                | stuck => simp only [et, ee] at hc; cases hc
                | exc x t => simp only [et, ee] at hc; cases hc
                | ok z τ4 =>
                  simp only [et, ee] at hc
                  by_cases cl : acc.length < lim
                  · rw [if_pos cl] at hc
                    refine ⟨M.but A, F3, τ3, s3, ?_⟩
                    rw [ee]
                    intro F4 H4 g4 s4 v rv
                    have hA4 : H4 A = some (.lst accV) := g4.keep A _ hA3 hnA
                    have hf4 : F4 A = none := g4.free A hf3 (by rw [hA3]; exact fun z => nomatch z) hnA
                    have ra4 := ra3.mono g4.frz
                    refine ⟨accV, hA4, by rw [ra.length]; exact lim_lt cl, F4, wipeT τ4 vs, acc ++ [z], accV ++ [v], sf3.trans g4.frz, ?_, ?_, upd_same, hf4, ra4.append (.cons rv .nil), fun i sl a b => wipeT_get a b, hc⟩
                    · refine (G3.trans g4.unbut).trans (but_step hA4 ?_)
                      exact s1.up A hA
                    · rw [← wp2]; exact (s4.wiped vs).butStep hA4 hf4
                  · rw [if_neg cl] at hc; cases hc
      · have e : i = ds.length := by omega
        subst e
        rw [List.drop_length] at hc
        cases hc
        refine .inl ⟨cf.stop H' (sf.trans s'.sub), ?_⟩
        have s3 := s'.unbut.unwipe hw
        refine p1 F' H' gg (SRel.rest s1 sf s3 vs) _ ⟨A, _, rfl, hA', hf', s1.up A hA, .l ra, fun i sl e m z => ?_⟩
        obtain ⟨e', hn⟩ := rest_mut vs e m
        obtain ⟨o, hm⟩ := Option.ne_none_iff_exists'.mp m
        obtain ⟨b, w, h1, h2, h3, h4, h5⟩ := s'.own i sl o e' hm
        have h1' : σ[i]? = some (some (V.ref b)) := (wipe_some h1).1
        rw [h1'] at z
        cases z
        exact h4.2 rfl
theorem jx_lc {fi : T → Rs (List D)} {g : D → T → Option T} {tt : T → Rs Bool} {el : T → Rs D} (hc : X.calm = true) (hN : X.N.Nodup) (hi : JI px W X tg iter fi) (ok : BlkOk X.N X.env.scope scope own)
    (hg : ∀ (s : Shared) (H : Hp) (C : Addr) (cl : List (Str × Addr)) (fp : List Addr), JG (X.blk s H scope (compEnvC scope cl C X.env) fp) tg (own.map (·.2)) g)
    (ht : ∀ (s : Shared) (H : Hp) (C : Addr) (cl : List (Str × Addr)) (fp : List Addr), JTs px W0 (X.blk s H scope (compEnvC scope cl C X.env) fp) ifs tt)
    (he : ∀ (s : Shared) (H : Hp) (C : Addr) (cl : List (Str × Addr)) (fp : List Addr), JE px W0 (X.blk s H scope (compEnvC scope cl C X.env) fp) elt el) (hs : ∀ x, foldedSetIterable iter X.env x = pure x) :
    JX px W X (.ListComp elt [⟨tg, iter, ifs, 0⟩] scope pos) (sLc fi g tt el (own.map (·.2))) :=
  PE.imp (pe_lc (g := rdG X.K (List.map (fun x : Str × Nat => x.2) own) g) (tt := rdT X.K px W0 tt) (te := rdE X.K px W0 el) hc hN hi ok hg ht he hs) fun _ _ _ h => rd_lc h
/-- name = [..] on one line -/
theorem js_setLc {i : Nat} {y : Str} {py spos : Pos} {fi : T → Rs (List D)} {g : D → T → Option T} {tt : T → Rs Bool} {el : T → Rs D} (hc : X.calm = true) (hN : X.N.Nodup) (hy : X.N[i]? = some y) (hyl : X.env.scope.names.lookup y = some .local)
    (hsw : swapsWith (.ListComp elt [⟨tg, iter, ifs, 0⟩] scope pos) (some (.Name y py)) spos.line X.env = pure true) (hi : JI px W X tg iter fi) (ok : BlkOk X.N X.env.scope scope own)
    (hg : ∀ (s : Shared) (H : Hp) (C : Addr) (cl : List (Str × Addr)) (fp : List Addr), JG (X.blk s H scope (compEnvC scope cl C X.env) fp) tg (own.map (·.2)) g)
    (ht : ∀ (s : Shared) (H : Hp) (C : Addr) (cl : List (Str × Addr)) (fp : List Addr), JTs px W0 (X.blk s H scope (compEnvC scope cl C X.env) fp) ifs tt)
    (he : ∀ (s : Shared) (H : Hp) (C : Addr) (cl : List (Str × Addr)) (fp : List Addr), JE px W0 (X.blk s H scope (compEnvC scope cl C X.env) fp) elt el) (hs : ∀ x, foldedSetIterable iter X.env x = pure x) :
    JS px W X (.Assign [.Name y py] (.ListComp elt [⟨tg, iter, ifs, 0⟩] scope pos) spos) (sSet i (sLc fi g tt el (own.map (·.2)))) :=
  js_asg (ps_setLc (g := rdG X.K (List.map (fun x : Str × Nat => x.2) own) g) (tt := rdT X.K px W0 tt) (te := rdE X.K px W0 el) hc hN hy hyl hsw hi ok hg ht he hs) fun _ _ _ h => rd_lc h
end
end U
end

section
set_option Elab.async false
set_option linter.all false
set_option maxRecDepth 100000
namespace U
open PySem PySem.Spec PyProof.Rows L2

/-! ### enumerate(tuple) -/
set_option maxHeartbeats 1000000 in
theorem enumT_new (l : Addr) (items : Array Value) (n : Nat) (dct : Option Addr) (sl : Array (Option Value)) :
    Meets (Builtin.«enumerate.__new__» ⟨[.type "enumerate", .ref l], []⟩) (fun _ R s => s.heap.get? l = some { cls := .type "tuple", dict := dct, data := .seq items n, slots := sl } ∧
      R (.ok (.ret (.ref (s.heap.push { cls := .type "tuple_iterator", data := .fields #[.ref l, .int 0 0] }).objs.size)))
        { s with heap := (s.heap.push { cls := .type "tuple_iterator", data := .fields #[.ref l, .int 0 0] }).push { cls := .type "enumerate", data := .fields #[.none, .bool false, .ref s.heap.objs.size, rawInt 0, .none, .none] } }) :=
  .of_wp fun prog w A R s h => by
    obtain ⟨hp, g, d, tk, os⟩ := s; obtain ⟨hl, h⟩ := h
    have hs := PySem.sub_enumerate
    have hT : Heap.IsTuple (Shared.heap ⟨hp, g, d, tk, os⟩) l items := ⟨_, hl, rfl, n, rfl⟩
    wp_walk using AutoSeq1.wpAny_loadPart' hl
    refine wpAny_stack_any fun st => wpAny_pure ?_
    split
    · rename_i c _ _ _ _ _
      cases (c == Value.type "enumerate")
      · wp_walk using AutoSeq1.wpAny_loadPart' hl, wpAny_pyIter_tuple hT
        exact ⟨_, rfl, h⟩
      · wp_walk using AutoSeq1.wpAny_loadPart' hl, wpAny_pyIter_tuple hT
        exact ⟨_, rfl, h⟩
    · wp_walk using AutoSeq1.wpAny_loadPart' hl, wpAny_pyIter_tuple hT
      exact ⟨_, rfl, h⟩
theorem enumT_call {prog : Program} {w : World} {A : Around} {E : Value → Shared → Prop} {s : Shared} {l : Addr} {items : Array Value} {Q : Value → Shared → Prop} (hL : s.heap.IsTuple l items)
    (h : ∀ h', IsEnum h' (s.heap.objs.size + 1) s.heap.objs.size 0 .none → h'.IsTupleIter s.heap.objs.size l 0 → h'.objs.size = s.heap.objs.size + 2 →
      (∀ b o, s.heap.get? b = some o → h'.get? b = some o) → Q (.ref (s.heap.objs.size + 1)) { s with heap := h' }) :
    wpAny (model prog w) A (call (.type "enumerate") [.ref l]) Q E s := by
  obtain ⟨⟨c, dct, dt, sl⟩, hl, hc, n, hd⟩ := hL
  replace hc : c = .type "tuple" := hc
  replace hd : dt = .seq items n := hd
  subst hc hd
  refine callType_new F.called_enumerate (by decide) (F.typeCall_enumerate_1 _) (F.newCall_enumerate_1 _) (fun obj => F.args_object_init_2 obj _) F.entry_enumerate_new (enumT_new l items n dct sl) ⟨hl, ?_⟩
  have hz : (s.heap.push { cls := .type "tuple_iterator", data := .fields #[.ref l, .int 0 0] }).objs.size = s.heap.objs.size + 1 := Heap.size_push ..
  show _ ∧ _
  rw [hz]
  have he : IsEnum ((s.heap.push { cls := .type "tuple_iterator", data := .fields #[.ref l, .int 0 0] }).push { cls := .type "enumerate", data := .fields #[.none, .bool false, .ref s.heap.objs.size, rawInt 0, .none, .none] }) (s.heap.objs.size + 1) s.heap.objs.size 0 .none := by
    have := Heap.get?_push_size (s.heap.push { cls := .type "tuple_iterator", data := .fields #[.ref l, .int 0 0] }) (o := { cls := .type "enumerate", data := .fields #[.none, .bool false, .ref s.heap.objs.size, rawInt 0, .none, .none] }) rfl
    rw [hz] at this; exact this
  exact ⟨⟨_, he, rfl⟩, h _ he ⟨_, Heap.get?_push_of_some _ (Heap.get?_push_size _ rfl), rfl, rfl⟩ (by rw [Heap.size_push, hz]) fun b o x => Heap.get?_push_of_some _ (Heap.get?_push_of_some _ x)⟩
def IteT (K : PySem.W.Frag) (a : Addr) : It :=
  ⟨fun i H => ∃ (xs : List V) (x : V), SqT K H a xs ∧ xs[i]? = some x, fun i H v H' => ∃ T x, v = .ref T ∧ H T = none ∧ H' = upd H T (.tup [.int (i : Nat), x]) ∧ ∀ xs, SqT K H a xs → xs[i]? = some x, fun i H => ∃ xs : List V, SqT K H a xs ∧ xs.length = i⟩
theorem turn_enumT {P : Program} {w : World} {K : PySem.W.Frag} {elts : List Expr} {kk : Nat} {tpos : Pos} (a e it : Addr) (hai : a ≠ it) (hea : e ≠ a) :
    Turn P w K (.Tuple elts kk tpos) (IteT K a) [e, it] e (fun i h => (∃ old, IsEnum h e it ((i : Nat) : Int) old) ∧ h.IsTupleIter it a i ∧ e ≠ it) where
  mem := by simp
  obj := fun i h st b hb => by
    obtain ⟨⟨old, he⟩, ⟨o, ho, hc, hd⟩, _⟩ := st
    have e' : b = e ∨ b = it := by simpa using hb
    rcases e' with z | z
    · rw [z]; exact ⟨_, he, fun v q => nomatch q⟩
    · rw [z]; exact ⟨o, ho, fun v q => by rw [hd] at q; cases q⟩
  keep := fun i h h' st k => let ⟨⟨old, he⟩, hi, hne⟩ := st; ⟨⟨old, k e (by simp) _ he⟩, hi.at fun o q => k it (by simp) o q, hne⟩
  item := by
    intro X hP hw hK hc i pins s σ H E I hf st hg
    subst hP hw hK
    obtain ⟨⟨old, he⟩, hit, hne⟩ := st
    obtain ⟨xs, x, hq, hx⟩ := hg
    obtain ⟨its, rv, p, _⟩ := I.tuple hq
    obtain ⟨u, hu, ru⟩ := rv.get hx
    have hel : e < s.heap.objs.size := Heap.lt_size he
    have hil : it < s.heap.objs.size := by obtain ⟨_, q, _⟩ := hit; exact Heap.lt_size q
    have hil2 : i < its.toArray.size := by
      obtain ⟨h, _⟩ := List.getElem?_eq_some_iff.mp hu
      simpa using h
    refine wpAny_pyNext_enum_itemD (Draws.tuple (prog := X.prog) (w := X.w) (A := X.A.in1) (I.ok.hd hc) it a hai its.toArray) he ⟨hit, p⟩ hil2 hne (by simp [hne, hea]) fun y h' tk hy ho hst' hT hsz hk => ?_
    have hyu : y = u := by
      have : its.toArray[i]? = some u := by simpa using hu
      rw [this] at hy; exact (Option.some.inj hy).symm
    subst hyu
    refine ⟨_, rfl, wpAny_letOwnedTupleGo_enum (s := { s with heap := h', toks := tk + 1 }) ho fun h'' he' sb => ?_⟩
    have hT2 : h''.get? s.heap.objs.size = some { cls := .type "tuple", data := .seq #[.int i tk, y] } := (sb.2 _ (Nat.ne_of_gt hel)).trans hT
    have new : ObjOk X.prog X.w (upd H s.heap.objs.size (.tup [.int (i : Nat), x])) h'' s.heap.objs.size (.tup [.int (i : Nat), x]) :=
      ⟨by show 2 ≤ sizeLine; decide, [.int i tk, y], .cons ⟨_, rfl⟩ (.cons ru .nil), ⟨_, hT2, rfl, _, rfl⟩⟩
    have I1 : Inv X pins σ (upd H s.heap.objs.size (.tup [.int (i : Nat), x])) { s with heap := h'', toks := tk + 1 } :=
      I.turnedNew (ch := [e, it]) (fun b ob hb q => (sb.2 b (fun z => hb (by simp [z]))).trans (hk b ob (fun z => hb (by simp [z])) (fun z => hb (by simp [z])) q)) hf (Nat.le_refl _) new
    refine ⟨.ref s.heap.objs.size, _, I1, rfl, ⟨_, x, rfl, I.hok.fresh (Nat.le_refl _), rfl, fun ys hy => by rw [I.tuple_inj hy hq]; exact hx⟩, ⟨⟨y, ?_⟩, hst'.1.at fun o q => (sb.2 it (Ne.symm hne)).trans q, hne⟩, fun b hb => ?_⟩
    · have e1 : ((i + 1 : Nat) : Int) = (i : Int) + 1 := by omega
      rw [e1]; exact he'
    · have hb' : b < s.heap.objs.size := by
        have e' : b = e ∨ b = it := by simpa using hb
        rcases e' with z | z
        · rw [z]; exact hel
        · rw [z]; exact hil
      rw [upd_ne (Nat.ne_of_lt hb')]
      exact (hf b hb).1
  done := by
    intro X hP hw hK hc i pins s σ H E I hf st hg
    subst hP hw hK
    obtain ⟨⟨old, he⟩, hit, hne⟩ := st
    obtain ⟨xs, hq, hx⟩ := hg
    obtain ⟨its, rv, p, _⟩ := I.tuple hq
    obtain ⟨f0, f1, f2, f3, f4, f5⟩ := hf it (by simp)
    have hl := rv.length
    have hs : i = its.toArray.size := by simp; omega
    subst hs
    exact wpAny_pyNext_enum_endD (Draws.tuple (prog := X.prog) (w := X.w) (A := X.A.in1) (I.ok.hd hc) it a hai its.toArray) he ⟨hit, p⟩ fun h' eb => ⟨rfl, I.turned (t' := s.toks) (fun b o hb q => eb b o hb q) f0 f1 f3 f4 f5⟩
  self := fun A i s Q E st h => let ⟨⟨_, he⟩, _⟩ := st; wpAny_pyIter_enum he h
def iEnumA (K : PySem.W.Frag) (ta : TA) : TI := fun σ H R => ta σ H fun vs H1 => ∃ a xs, vs = [.ref a] ∧ ((SqL K H1 a xs ∧ R (Ite K a) H1) ∨ (SqT K H1 a xs ∧ R (IteT K a) H1))
theorem pi_enumA {X : Cx} {e : Expr} {ta : TA} {p pos tpos : Pos} {elts : List Expr} {kk : Nat} (hg : Gl X "enumerate") (hm : X.mg "enumerate" = none) (ha : PA X [e] ta) (hs : starEach [e] X.env = [(false, eval e X.env)]) :
    PI X (.Tuple elts kk tpos) (.Call (.Name "enumerate" p) [e] [] pos) (iEnumA X.K ta) := by
  refine ⟨fun pins s σ H R I h => ?_⟩
  refine Call_ (ld_blt I hg hm boot_enumerate (PyProof.Rows.callWith_type1 (thn (ha.run pos pins s σ H _ I h) fun us s1 ⟨vs, H1, I1, r1, q1⟩ => ?_) hs rfl))
  obtain ⟨a, xs, ex, q1⟩ := q1
  subst ex
  cases r1 with
  | cons r rr =>
    cases rr
    cases r
    have frs : ∀ b, b ∈ [s1.heap.objs.size + 1, s1.heap.objs.size] → FpOk X pins H1 b := fun b hb => by
      have e' : b = s1.heap.objs.size + 1 ∨ b = s1.heap.objs.size := by simpa using hb
      have hle : s1.heap.objs.size ≤ b := by
        rcases e' with z | z
        · rw [z]; exact Nat.le_add_right _ _
        · rw [z]; exact Nat.le_refl _
      exact I1.fpOk hle (I1.hok.fresh hle)
    rcases q1 with ⟨hq, q⟩ | ⟨hq, q⟩
    · obtain ⟨its, rv, p', hz⟩ := I1.list hq
      refine call_enumerate_list p'.isList fun h' he hit hsz hk => wpAny_pyIter_enum he ?_
      have I2 : Inv X pins σ H1 { s1 with heap := h' } := I1.kept (t' := s1.toks) hk
      exact ⟨s1.heap.objs.size + 1, [s1.heap.objs.size + 1, s1.heap.objs.size], _, _, H1, rfl, I2, turn_enum a (s1.heap.objs.size + 1) s1.heap.objs.size, ⟨⟨.none, he⟩, hit, Nat.succ_ne_self _⟩, frs, q⟩
    · obtain ⟨its, rv, p', _⟩ := I1.tuple hq
      have hal : a < s1.heap.objs.size := by obtain ⟨_, z, _⟩ := id p'; exact Heap.lt_size z
      refine enumT_call (show s1.heap.IsTuple a its.toArray from p') fun h' he hit hsz hk => wpAny_pyIter_enum he ?_
      have I2 : Inv X pins σ H1 { s1 with heap := h' } := I1.kept (t' := s1.toks) hk
      exact ⟨s1.heap.objs.size + 1, [s1.heap.objs.size + 1, s1.heap.objs.size], _, _, H1, rfl, I2, turn_enumT a (s1.heap.objs.size + 1) s1.heap.objs.size (Nat.ne_of_lt hal) (Nat.ne_of_gt (Nat.lt_succ_of_lt hal)), ⟨⟨.none, he⟩, hit, Nat.succ_ne_self _⟩, frs, q⟩
/-! ### in our terms -/
def numb (k : Nat) : List D → List D
  | [] => []
  | d :: ds => .tup [.int (k : Int), d] :: numb (k + 1) ds
theorem numb_get : ∀ (ds : List D) (k i : Nat), (numb k ds)[i]? = (ds[i]?).map fun d => .tup [.int ((k + i : Nat) : Int), d]
  | [], k, i => by simp [numb]
  | d :: ds, k, 0 => by simp [numb]
  | d :: ds, k, i + 1 => by
    simp only [numb, List.getElem?_cons_succ]
    rw [numb_get ds (k + 1) i]
    congr 1; funext x
    have : k + 1 + i = k + (i + 1) := by omega
    rw [this]
theorem numb_len : ∀ (ds : List D) (k : Nat), (numb k ds).length = ds.length
  | [], k => rfl
  | d :: ds, k => by simp [numb, numb_len ds]
section
variable {K : PySem.W.Frag} {F H : Hp}
theorem pair_new {F' H' : Hp} {T : Addr} {x y : V} {d e : D} (s : Sub F' H') (hT : H' T = none) (rx : Rep K F' x d) (ry : Rep K F' y e) : ∃ F'', New F' H' F'' (upd H' T (.tup [x, y])) ∧ Rep K F'' (.ref T) (.tup [d, e]) :=
  ⟨_, .lay s hT, .tup upd_same (.cons (rx.mono (Sub.upd (none_of_sub s hT))) (.cons (ry.mono (Sub.upd (none_of_sub s hT))) .nil))⟩
theorem conf_enumL {a : Addr} {vs : List V} {ds : List D} (h : F a = some (.lst vs)) (r : RepL K F vs ds) : Conf K F (Ite K a) (numb 0 ds) := by
  refine ⟨fun i H' hi s => ?_, fun H' s => ⟨vs, .of (s _ _ h), by rw [r.length, numb_len]; exact Nat.le_refl _⟩, fun i F' H' x H'' d e s s' y => ?_⟩
  · have hv : i < vs.length := by rw [r.length]; rw [numb_len] at hi; exact hi
    exact ⟨vs, vs[i], .of (s _ _ h), by simp [hv]⟩
  · rw [numb_get] at e
    obtain ⟨d0, e0, rfl⟩ := map_some e
    obtain ⟨v, e1, rv⟩ := r.get e0
    obtain ⟨T, z, rfl, hT, rfl, y⟩ := y
    have := y vs (.of (s' _ _ (s _ _ h)))
    rw [e1] at this
    cases this
    rw [Nat.zero_add]
    exact pair_new s' hT (.int _) (rv.mono s)
theorem conf_enumT {a : Addr} {vs : List V} {ds : List D} (h : F a = some (.tup vs)) (r : RepL K F vs ds) : Conf K F (IteT K a) (numb 0 ds) := by
  refine ⟨fun i H' hi s => ?_, fun H' s => ⟨vs, .of (s _ _ h), by rw [r.length, numb_len]⟩, fun i F' H' x H'' d e s s' y => ?_⟩
  · have hv : i < vs.length := by rw [r.length]; rw [numb_len] at hi; exact hi
    exact ⟨vs, vs[i], .of (s _ _ h), by simp [hv]⟩
  · rw [numb_get] at e
    obtain ⟨d0, e0, rfl⟩ := map_some e
    obtain ⟨v, e1, rv⟩ := r.get e0
    obtain ⟨T, z, rfl, hT, rfl, y⟩ := y
    have := y vs (.of (s' _ _ (s _ _ h)))
    rw [e1] at this
    cases this
    rw [Nat.zero_add]
    exact pair_new s' hT (.int _) (rv.mono s)
def zipD : List D → List D → List D
  | d :: ds, e :: es => .tup [d, e] :: zipD ds es
  | _, _ => []
theorem zipD_get : ∀ (ds es : List D) (i : Nat) (z : D), (zipD ds es)[i]? = some z → ∃ d e, ds[i]? = some d ∧ es[i]? = some e ∧ z = .tup [d, e]
  | [], es, i, z, h => by simp [zipD] at h
  | d :: ds, [], i, z, h => by simp [zipD] at h
  | d :: ds, e :: es, 0, z, h => by simp [zipD] at h; exact ⟨d, e, rfl, rfl, h.symm⟩
  | d :: ds, e :: es, i + 1, z, h => by
    simp only [zipD, List.getElem?_cons_succ] at h
    exact zipD_get ds es i z h
theorem zipD_len : ∀ (ds es : List D), (zipD ds es).length = min ds.length es.length
  | [], es => by simp [zipD]
  | d :: ds, [] => by simp [zipD]
  | d :: ds, e :: es => by simp only [zipD, List.length_cons, zipD_len ds es]; omega
theorem conf_zipL {a b : Addr} {vs ws : List V} {ds es : List D} (h : F a = some (.lst vs)) (r : RepL K F vs ds) (h' : F b = some (.lst ws)) (r' : RepL K F ws es) : Conf K F (Itz K a b) (zipD ds es) := by
  refine ⟨fun i H' hi s => ?_, fun H' s => ⟨vs, ws, .of (s _ _ h), .of (s _ _ h'), by rw [r.length, r'.length, zipD_len]; omega⟩, fun i F' H' x H'' d e s s' y => ?_⟩
  · rw [zipD_len] at hi
    have hv : i < vs.length := by rw [r.length]; omega
    have hw : i < ws.length := by rw [r'.length]; omega
    exact ⟨vs, ws, vs[i], ws[i], .of (s _ _ h), .of (s _ _ h'), by simp [hv], by simp [hw]⟩
  · obtain ⟨d0, e0, q1, q2, rfl⟩ := zipD_get _ _ _ _ e
    obtain ⟨v, e1, rv⟩ := r.get q1
    obtain ⟨w, e2, rw'⟩ := r'.get q2
    obtain ⟨T, x', y', rfl, hT, rfl, y1, y2⟩ := y
    have z1 := y1 vs (.of (s' _ _ (s _ _ h)))
    have z2 := y2 ws (.of (s' _ _ (s _ _ h')))
    rw [e1] at z1
    rw [e2] at z2
    cases z1
    cases z2
    exact pair_new s' hT (rv.mono s) (rw'.mono s)
theorem conf_zipT {a b : Addr} {vs ws : List V} {ds es : List D} (h : F a = some (.tup vs)) (r : RepL K F vs ds) (h' : F b = some (.tup ws)) (r' : RepL K F ws es) : Conf K F (RZ.ItzT K a b) (zipD ds es) := by
  refine ⟨fun i H' hi s => ?_, fun H' s => ⟨vs, ws, .of (s _ _ h), .of (s _ _ h'), by rw [r.length, r'.length, zipD_len]; omega⟩, fun i F' H' x H'' d e s s' y => ?_⟩
  · rw [zipD_len] at hi
    have hv : i < vs.length := by rw [r.length]; omega
    have hw : i < ws.length := by rw [r'.length]; omega
    exact ⟨vs, ws, vs[i], ws[i], .of (s _ _ h), .of (s _ _ h'), by simp [hv], by simp [hw]⟩
  · obtain ⟨d0, e0, q1, q2, rfl⟩ := zipD_get _ _ _ _ e
    obtain ⟨v, e1, rv⟩ := r.get q1
    obtain ⟨w, e2, rw'⟩ := r'.get q2
    obtain ⟨T, x', y', rfl, hT, rfl, y1, y2⟩ := y
    have z1 := y1 vs (.of (s' _ _ (s _ _ h)))
    have z2 := y2 ws (.of (s' _ _ (s _ _ h')))
    rw [e1] at z1
    rw [e2] at z2
    cases z1
    cases z2
    exact pair_new s' hT (rv.mono s) (rw'.mono s)
end
section
variable {px : PX} {W : WX} {X : Cx} {pos tpos : Pos} {elts : List Expr} {kk : Nat}
def sEnum (f : T → Rs (List D)) : T → Rs (List D) := fun τ => (f τ).bind fun ds τ1 => match ds with
  | [.lst es] => .ok (numb 0 es) τ1
  | [.tup es] => .ok (numb 0 es) τ1
  | _ => .stuck
theorem ji_enum {e : Expr} {p : Pos} {f : T → Rs (List D)} (hg : Gl X "enumerate") (hm : X.mg "enumerate" = none) (ha : JA px W X [e] f) (hs : starEach [e] X.env = [(false, eval e X.env)]) : JI px W X (.Tuple elts kk tpos) (.Call (.Name "enumerate" p) [e] [] pos) (sEnum f) :=
  PI.imp (pi_enumA hg hm ha hs) fun σ H R ⟨M, F, τ, s, p⟩ => ⟨M, F, τ, s, p.bind.imp fun ds τ1 F1 H1 g1 s1 p1 vs r => by
    match ds, p1, r with
    | [.lst es], p1, .cons (.lst q r) .nil => exact ⟨_, _, rfl, .inl ⟨.of (s1.sub _ _ q), p1 F1 H1 .refl s1 _ (conf_enumL q r)⟩⟩
    | [.tup es], p1, .cons (.tup q r) .nil => exact ⟨_, _, rfl, .inr ⟨.of (s1.sub _ _ q), p1 F1 H1 .refl s1 _ (conf_enumT q r)⟩⟩⟩
def sZip (f : T → Rs (List D)) : T → Rs (List D) := fun τ => (f τ).bind fun ds τ1 => match ds with
  | [.lst es, .lst fs] => .ok (zipD es fs) τ1
  | [.tup es, .tup fs] => .ok (zipD es fs) τ1
  | _ => .stuck
theorem ji_zip {e e2 : Expr} {p : Pos} {f : T → Rs (List D)} (hg : Gl X "zip") (hm : X.mg "zip" = none) (ha : JA px W X [e, e2] f) (hs : starEach [e, e2] X.env = (false, eval e X.env) :: starEach [e2] X.env) (hp : (backTo pos (starEach [e2] X.env)).any (·.1) = false) :
    JI px W X (.Tuple elts kk tpos) (.Call (.Name "zip" p) [e, e2] [] pos) (sZip f) :=
  PI.imp (RZ.pi_zipA hg hm ha hs hp) fun σ H R ⟨M, F, τ, s, p⟩ => ⟨M, F, τ, s, p.bind.imp fun ds τ1 F1 H1 g1 s1 p1 vs r => by
    match ds, p1, r with
    | [.lst es, .lst fs], p1, .cons (.lst q r) (.cons (.lst q' r') .nil) => exact ⟨_, _, _, _, rfl, .inl ⟨.of (s1.sub _ _ q), .of (s1.sub _ _ q'), p1 F1 H1 .refl s1 _ (conf_zipL q r q' r')⟩⟩
    | [.tup es, .tup fs], p1, .cons (.tup q r) (.cons (.tup q' r') .nil) => exact ⟨_, _, _, _, rfl, .inr ⟨.of (s1.sub _ _ q), .of (s1.sub _ _ q'), p1 F1 H1 .refl s1 _ (conf_zipT q r q' r')⟩⟩⟩
end
end U
end

section
set_option Elab.async false
set_option linter.all false
set_option maxRecDepth 100000
namespace U
open PySem PySem.Spec PyProof.Rows L2

/-! ### own defs: what they promise -/
inductive DR where
  | ok (r : PR) (fs : T)
  | exc (x : Ex) (fs : T)
  | stuck
/-- what of the lent objects is handed back -/
def finals : List Sl → T → Option T
  | [], _ => some []
  | a :: as, t :: τ => match a, t with
    | .io _, .io o => (finals as τ).map (Sl.io o :: ·)
    | .io _, _ => none
    | _, _ => (finals as τ).map (Sl.no :: ·)
  | _ :: _, [] => none
def DR.of (r : SR) (as : List Sl) : DR := match r with
  | .rt r τ => (match finals as τ with | some fs => .ok r fs | none => .stuck)
  | .nx τ => (match finals as τ with | some fs => .ok (.d .non) fs | none => .stuck)
  | .exc x τ => (match finals as τ with | some fs => .exc x fs | none => .stuck)
  | _ => .stuck
/-- the body f at these arguments; m: the other names -/
def run (m : Nat) (f : T → SR) (as : List Sl) : DR := DR.of (f (as ++ List.replicate m .no)) as
def CPost (K : PySem.W.Frag) (px : PX) (M : MS) (F H : Hp) (vs : List V) (Q : VK) (E : XK) : DR → Prop
  | .ok (.d z) fs => ∀ v F' H', Grow M F H F' H' → SRel K M F' H' (vs.map some) fs → Rep K F' v z → Q v H'
  | .ok (.o z) fs => ∀ v F' H', Grow M F H F' H' → SRel K M F' H' (vs.map some) fs → OwnR K M F' H' (vs.map some) fs v z → Q v H'
  | .exc x fs => ∀ F' H', Grow M F H F' H' → SRel K M F' H' (vs.map some) fs → ∀ dd, XD K px F' H' x dd → E (.ref (px.cls x.c)) dd H'
  | .stuck => False
def spOf (K : PySem.W.Frag) (px : PX) (n : Nat) (den : List Sl → DR) : Sp := fun vs H Q E => ∃ M F as, vs.length = n ∧ as.length = n ∧ SRel K M F H (vs.map some) as ∧ CPost K px M F H vs Q E (den as)
theorem finals_get : ∀ {as : List Sl} {τ fs : T} {i : Nat} {sl : Sl}, finals as τ = some fs → fs[i]? = some sl → sl ≠ .no → ∃ o0 o, as[i]? = some (.io o0) ∧ τ[i]? = some (.io o) ∧ sl = .io o
  | [], τ, fs, i, sl, h, e, n => by cases h; simp at e
  | a :: as, [], fs, i, sl, h, e, n => by cases h
  | a :: as, t :: τ, fs, i, sl, h, e, n => by
    have key : ∃ x fs', finals as τ = some fs' ∧ fs = x :: fs' ∧ (x ≠ .no → ∃ o0 o, a = .io o0 ∧ t = .io o ∧ x = .io o) := by
      cases a with
      | io o0 => cases t with
        | io o =>
          obtain ⟨fs', e1, rfl⟩ := map_some (show (finals as τ).map (Sl.io o :: ·) = some fs from h)
          exact ⟨_, fs', e1, rfl, fun _ => ⟨o0, o, rfl, rfl, rfl⟩⟩
        | _ => cases h
      | _ =>
        obtain ⟨fs', e1, rfl⟩ := map_some (show (finals as τ).map (Sl.no :: ·) = some fs from h)
        exact ⟨_, fs', e1, rfl, fun z => absurd rfl z⟩
    obtain ⟨x, fs', e1, rfl, hx⟩ := key
    cases i with
    | zero =>
      have : x = sl := by simpa using e
      subst this
      obtain ⟨o0, o, rfl, rfl, rfl⟩ := hx n
      exact ⟨o0, o, rfl, rfl, rfl⟩
    | succ i =>
      obtain ⟨o0, o, q1, q2, q3⟩ := finals_get (i := i) e1 (by simpa using e) n
      exact ⟨o0, o, by simpa using q1, by simpa using q2, q3⟩
theorem finals_len : ∀ {as : List Sl} {τ fs : T}, finals as τ = some fs → fs.length = as.length
  | [], τ, fs, h => by cases h; rfl
  | a :: as, [], fs, h => by cases h
  | a :: as, t :: τ, fs, h => by
    have key : ∃ x fs', finals as τ = some fs' ∧ fs = x :: fs' := by
      cases a with
      | io o0 => cases t with
        | io o =>
          obtain ⟨fs', e1, rfl⟩ := map_some (show (finals as τ).map (Sl.io o :: ·) = some fs from h)
          exact ⟨_, fs', e1, rfl⟩
        | _ => cases h
      | _ =>
        obtain ⟨fs', e1, rfl⟩ := map_some (show (finals as τ).map (Sl.no :: ·) = some fs from h)
        exact ⟨_, fs', e1, rfl⟩
    obtain ⟨x, fs', e1, rfl⟩ := key
    rw [List.length_cons, finals_len e1, List.length_cons]
section
variable {K : PySem.W.Frag} {px : PX} {M : MS} {F H F' H' : Hp} {σ σ' : St} {τ' : T} {vs : List V} {as : List Sl} {fs : T}
theorem SRel.finals (s0 : SRel K M F H (vs.map some) as) (s : SRel K M F' H' σ' τ') (e : U.finals as τ' = some fs) : SRel K M F' H' (vs.map some) fs := by
  have at_ : ∀ (i : Nat) (sl : Sl), fs[i]? = some sl → sl ≠ .no → ∃ o, sl = .io o ∧ τ'[i]? = some (.io o) ∧ (vs.map some)[i]? = some (some (V.ref (M.ad i))) ∧ σ'[i]? = some (some (V.ref (M.ad i))) := fun i sl h n => by
    obtain ⟨o0, o, q1, q2, rfl⟩ := finals_get e h n
    exact ⟨o, rfl, q2, s0.io i o0 q1, s.io i o q2⟩
  refine ⟨by rw [finals_len e]; exact s0.len, s.up, s.sub, fun i d h => ?_, fun i sl o h m => ?_, fun i j sl tl b h1 m1 h2 m2 f1 f2 => ?_, fun i o h => ?_⟩
  · obtain ⟨o, q, _⟩ := at_ i _ h (fun z => nomatch z); cases q
  · obtain ⟨o', rfl, q2, q3, q4⟩ := at_ i _ h (fun z => by subst z; cases m)
    cases m
    obtain ⟨a, u, h1, h2, h3, h4, h5⟩ := s.own i _ _ q2 rfl
    rw [q4] at h1
    cases h1
    exact ⟨_, u, q3, h2, h3, h4, h5⟩
  · obtain ⟨o1, rfl, q2, q3, q4⟩ := at_ i _ h1 (fun z => by subst z; exact m1 rfl)
    obtain ⟨o2, rfl, r2, r3, r4⟩ := at_ j _ h2 (fun z => by subst z; exact m2 rfl)
    rw [q3] at f1
    rw [r3] at f2
    cases f1
    refine s.apart i j _ _ (M.ad i) q2 m1 r2 m2 q4 ?_
    rw [r4]; exact f2
  · obtain ⟨_, _, _, q3, _⟩ := at_ i _ h (fun z => nomatch z); exact q3
theorem OwnR.finals {v : V} {o : OV} (s0 : SRel K M F H (vs.map some) as) (s : SRel K M F' H' σ' τ') (e : U.finals as τ' = some fs) (h : OwnR K M F' H' σ' τ' v o) : OwnR K M F' H' (vs.map some) fs v o := by
  obtain ⟨a, u, h1, h2, h3, h4, h5, h6⟩ := h
  refine ⟨a, u, h1, h2, h3, h4, h5, fun i sl q m z => ?_⟩
  obtain ⟨o0, o', q1, q2, rfl⟩ := finals_get e q (fun z => by subst z; exact m rfl)
  have z1 := s0.io i o0 q1
  have z2 := s.io i o' q2
  rw [z1] at z
  exact h6 i _ q2 m (by rw [z2]; exact z)
theorem app_get {m i : Nat} {sl : Sl} (h : (as ++ List.replicate m Sl.no)[i]? = some sl) (n : sl ≠ .no) : as[i]? = some sl := by
  by_cases c : i < as.length
  · rw [List.getElem?_append_left c] at h; exact h
  · rw [List.getElem?_append_right (by omega), List.getElem?_replicate] at h
    split at h
    · cases h; exact absurd rfl n
    · cases h
theorem app_left {α : Type} {l r : List α} {i : Nat} {x : α} (h : l[i]? = some x) : (l ++ r)[i]? = some x := by
  obtain ⟨c, _⟩ := List.getElem?_eq_some_iff.mp h
  rw [List.getElem?_append_left c]; exact h
theorem SRel.start {m k : Nat} (s : SRel K M F H (vs.map some) as) (hl : vs.length = as.length) (hm : m ≤ k) : SRel K M F H (vs.map some ++ List.replicate k none) (as ++ List.replicate m .no) := by
  refine ⟨by simp; omega, s.up, s.sub, fun i d h => ?_, fun i sl o h e => ?_, fun i j sl tl b h1 m1 h2 m2 f1 f2 => ?_, fun i o h => ?_⟩
  · obtain ⟨v, e, r⟩ := s.val i d (app_get h fun z => nomatch z)
    exact ⟨v, app_left e, r⟩
  · obtain ⟨a, u, h1, h2⟩ := s.own i sl o (app_get h fun z => by subst z; cases e) e
    exact ⟨a, u, app_left h1, h2⟩
  · have q1 := app_get h1 (fun z => by subst z; exact m1 rfl)
    have q2 := app_get h2 (fun z => by subst z; exact m2 rfl)
    obtain ⟨o1, e1⟩ := Option.ne_none_iff_exists'.mp m1
    obtain ⟨o2, e2⟩ := Option.ne_none_iff_exists'.mp m2
    obtain ⟨a1, _, p1, _⟩ := s.own i sl o1 q1 e1
    obtain ⟨a2, _, p2, _⟩ := s.own j tl o2 q2 e2
    rw [app_left p1] at f1
    rw [app_left p2] at f2
    cases f1
    cases f2
    exact s.apart i j sl tl _ q1 m1 q2 m2 p1 p2
  · exact app_left (s.io i o (app_get h fun z => nomatch z))
theorem run_post {Q : VK} {E : XK} {r : SR} {D : Ends} (hnx : D.nx = fun _ H' => Q .non H') (hrt : D.rt = Q) (s0 : SRel K M F H (vs.map some) as) (p : CPost K px M F H vs Q E (DR.of r as)) : SPost K px (fun cls d _ H => E cls d H) M F H D r := by
  cases r with
  | rt r τ =>
    have p : CPost K px M F H vs Q E (match U.finals as τ with | some fs => .ok r fs | none => .stuck) := p
    cases e : U.finals as τ with
    | none => rw [e] at p; exact p.elim
    | some fs =>
      rw [e] at p
      cases r with
      | d z => exact fun v σ' F' H' g s r => by rw [hrt]; exact p v F' H' g (s0.finals s e) r
      | o z => exact fun v σ' F' H' g s r => by rw [hrt]; exact p v F' H' g (s0.finals s e) (r.finals s0 s e)
  | nx τ =>
    have p : CPost K px M F H vs Q E (match U.finals as τ with | some fs => .ok (.d .non) fs | none => .stuck) := p
    cases e : U.finals as τ with
    | none => rw [e] at p; exact p.elim
    | some fs =>
      rw [e] at p
      exact fun σ' F' H' g s => by rw [hnx]; exact p .non F' H' g (s0.finals s e) .non
  | exc x τ =>
    have p : CPost K px M F H vs Q E (match U.finals as τ with | some fs => .exc x fs | none => .stuck) := p
    cases e : U.finals as τ with
    | none => rw [e] at p; exact p.elim
    | some fs =>
      rw [e] at p
      exact fun σ' F' H' g s dd xd => p F' H' g (s0.finals s e) dd xd
  | bk τ => exact p.elim
  | ct τ => exact p.elim
  | stuck => exact p.elim
end
section
variable {P : Program} {w : World} {K : PySem.W.Frag} {mg : Str → Option Value} {base : Heap} {x qual : Str} {params : Arguments} {body : List Stmt} {scope : Scope} {f : Addr} {fd : FuncData} {px : PX}
/-- THE RULE of a def -/
theorem fn_run {N ps : List Str} {k m : Nat} {g : T → SR} (F : FunD K x qual params body scope [] [] f fd) (S : FnScope N ps scope) (hn : N.length = ps.length + m)
    (hb : ∀ (cdv : Value) (A : Around) (outer : List Env) (s : Shared) (H : Hp) (E : XK), Room k (A.deeper (envOfC qual scope s.heap.objs.size f cdv)) →
      Takes (cxOf (L2.CX P w) P w K mg base N qual scope f cdv A outer s H E) (fun cls d _ H => E cls d H) →
      PassesOwn (model P w) (cxOf (L2.CX P w) P w K mg base N qual scope f cdv A outer s H E).A (cxOf (L2.CX P w) P w K mg base N qual scope f cdv A outer s H E).env (cxOf (L2.CX P w) P w K mg base N qual scope f cdv A outer s H E).xe →
      JSs px (fun cls d _ H => E cls d H) (cxOf (L2.CX P w) P w K mg base N qual scope f cdv A outer s H E) body g) :
    FnOk P w K mg base (L2.CX P w) (k + 1) f fd ps (spOf K px ps.length (run m g)) := by
  refine F.ok S (fun vs H Q E h => ?_) (fun cdv A outer s H vs Q E hr h => ⟨_, hb cdv A outer s H E hr (takes_of rfl rfl rfl rfl) (passes_of rfl), ?_⟩)
  · obtain ⟨M, F, as, h, _⟩ := h; exact h
  · obtain ⟨M, F, as, hv, ha, sr, p⟩ := h
    refine ⟨M, F, as ++ List.replicate m Sl.no, ?_, run_post (K := K) (px := px) (E := E) (D := { nx := fun _ H' => Q V.non H', rt := Q }) (r := g (as ++ List.replicate m Sl.no)) rfl rfl sr p⟩
    exact sr.start (by omega) (by omega)
end
/-! ### calling them -/
def avL : List BR → T → Option (List Sl)
  | [], _ => some []
  | .d z :: bs, τ => (avL bs τ).map (Sl.val z :: ·)
  | .sl i :: bs, τ => match τ[i]? with
    | some (.own o) => (avL bs τ).map (Sl.io o :: ·)
    | some (.io o) => (avL bs τ).map (Sl.io o :: ·)
    | some (.val d) => (avL bs τ).map (Sl.val d :: ·)
    | _ => none
def slL : List BR → List Nat
  | [] => []
  | .d _ :: bs => slL bs
  | .sl i :: bs => i :: slL bs
def putL : List BR → List Sl → T → T → Option T
  | [], [], [], τ => some τ
  | b :: bs, a :: as, f :: fs, τ => match b, a, f with
    | .sl i, .io _, .io o => putL bs as fs (τ.set i ((τ.getD i .no).put o))
    | _, .val _, _ => putL bs as fs τ
    | _, _, _ => none
  | _, _, _, _ => none
def sCall (den : List Sl → DR) (fa : T → Rs (List BR)) : T → Rs PR := fun τ => (fa τ).bind fun bs τ1 => if (slL bs).Nodup then (match avL bs τ1 with
  | some as => (match den as with
    | .ok r fs => (match putL bs as fs τ1 with | some τ2 => .ok r τ2 | none => .stuck)
    | .exc x fs => (match putL bs as fs τ1 with | some τ2 => .exc x τ2 | none => .stuck)
    | .stuck => .stuck)
  | none => .stuck) else .stuck
theorem avL_get : ∀ {bs : List BR} {τ : T} {as : List Sl} {i : Nat} {sl : Sl}, avL bs τ = some as → as[i]? = some sl →
    (∃ z, bs[i]? = some (.d z) ∧ sl = .val z) ∨ ∃ j, bs[i]? = some (.sl j) ∧ ((∃ d, τ[j]? = some (.val d) ∧ sl = .val d) ∨ ∃ s o, τ[j]? = some s ∧ s.mut = some o ∧ sl = .io o)
  | [], τ, as, i, sl, h, e => by cases h; simp at e
  | b :: bs, τ, as, i, sl, h, e => by
    have key : ∃ x as', avL bs τ = some as' ∧ as = x :: as' ∧ ((∃ z, b = .d z ∧ x = .val z) ∨ ∃ j, b = .sl j ∧ ((∃ d, τ[j]? = some (.val d) ∧ x = .val d) ∨ ∃ s o, τ[j]? = some s ∧ s.mut = some o ∧ x = .io o)) := by
      cases b with
      | d z =>
        obtain ⟨as', e1, rfl⟩ := map_some (show (avL bs τ).map (Sl.val z :: ·) = some as from h)
        exact ⟨_, as', e1, rfl, .inl ⟨z, rfl, rfl⟩⟩
      | sl j =>
        unfold avL at h
        cases q : τ[j]? with
        | none => rw [q] at h; cases h
        | some s =>
          rw [q] at h
          cases s with
          | no => cases h
          | val d => obtain ⟨as', e1, rfl⟩ := map_some h; exact ⟨_, as', e1, rfl, .inr ⟨j, rfl, .inl ⟨d, q, rfl⟩⟩⟩
          | own o => obtain ⟨as', e1, rfl⟩ := map_some h; exact ⟨_, as', e1, rfl, .inr ⟨j, rfl, .inr ⟨_, o, q, rfl, rfl⟩⟩⟩
          | io o => obtain ⟨as', e1, rfl⟩ := map_some h; exact ⟨_, as', e1, rfl, .inr ⟨j, rfl, .inr ⟨_, o, q, rfl, rfl⟩⟩⟩
    obtain ⟨x, as', e1, rfl, hx⟩ := key
    cases i with
    | zero =>
      have : x = sl := by simpa using e
      subst this
      rcases hx with ⟨z, rfl, rfl⟩ | ⟨j, rfl, hj⟩
      · exact .inl ⟨z, rfl, rfl⟩
      · exact .inr ⟨j, rfl, hj⟩
    | succ i => exact avL_get (bs := bs) (i := i) e1 (by simpa using e)
theorem avL_len : ∀ {bs : List BR} {τ : T} {as : List Sl}, avL bs τ = some as → as.length = bs.length
  | [], τ, as, h => by cases h; rfl
  | b :: bs, τ, as, h => by
    have key : ∃ x as', avL bs τ = some as' ∧ as = x :: as' := by
      cases b with
      | d z =>
        obtain ⟨as', e1, rfl⟩ := map_some (show (avL bs τ).map (Sl.val z :: ·) = some as from h)
        exact ⟨_, as', e1, rfl⟩
      | sl j =>
        unfold avL at h
        cases q : τ[j]? with
        | none => rw [q] at h; cases h
        | some s =>
          rw [q] at h
          cases s with
          | no => cases h
          | _ => obtain ⟨as', e1, rfl⟩ := map_some h; exact ⟨_, as', e1, rfl⟩
    obtain ⟨x, as', e1, rfl⟩ := key
    rw [List.length_cons, avL_len e1, List.length_cons]
theorem slL_mem : ∀ {bs : List BR} {i j : Nat}, bs[i]? = some (.sl j) → j ∈ slL bs
  | [], i, j, h => by simp at h
  | b :: bs, 0, j, h => by
    have : b = .sl j := by simpa using h
    subst this; simp [slL]
  | b :: bs, i + 1, j, h => by
    have := slL_mem (bs := bs) (i := i) (j := j) (by simpa using h)
    cases b with
    | d z => exact this
    | sl k => simp only [slL, List.mem_cons]; exact .inr this
theorem slL_inj : ∀ {bs : List BR} {i i' j : Nat}, (slL bs).Nodup → bs[i]? = some (.sl j) → bs[i']? = some (.sl j) → i = i'
  | [], i, i', j, n, h, h' => by simp at h
  | b :: bs, 0, 0, j, n, h, h' => rfl
  | b :: bs, 0, i' + 1, j, n, h, h' => by
    have e : b = .sl j := by simpa using h
    subst e
    have n : (j :: slL bs).Nodup := n
    exact absurd (slL_mem (i := i') (by simpa using h')) (List.nodup_cons.mp n).1
  | b :: bs, i + 1, 0, j, n, h, h' => by
    have e : b = .sl j := by simpa using h'
    subst e
    have n : (j :: slL bs).Nodup := n
    exact absurd (slL_mem (i := i) (by simpa using h)) (List.nodup_cons.mp n).1
  | b :: bs, i + 1, i' + 1, j, n, h, h' => by
    have n' : (slL bs).Nodup := by
      cases b with
      | d z => exact n
      | sl k => exact (List.nodup_cons.mp (show (k :: slL bs).Nodup from n)).2
    rw [slL_inj n' (i := i) (i' := i') (by simpa using h) (by simpa using h')]
/-- what stands behind putL -/
def PutAt (bs : List BR) (as : List Sl) (fs τ : T) (j : Nat) (sl : Sl) : Prop :=
  (τ[j]? = some sl ∧ ∀ (i : Nat) (o : OV), bs[i]? = some (BR.sl j) → as[i]? ≠ some (Sl.io o)) ∨ ∃ (i : Nat) (o0 o : OV) (s : Sl), bs[i]? = some (BR.sl j) ∧ as[i]? = some (Sl.io o0) ∧ fs[i]? = some (Sl.io o) ∧ τ[j]? = some s ∧ sl = s.put o
theorem putL_get : ∀ {bs : List BR} {as : List Sl} {fs τ τ' : T} {j : Nat} {sl : Sl}, (slL bs).Nodup → putL bs as fs τ = some τ' → τ'[j]? = some sl → PutAt bs as fs τ j sl
  | [], [], [], τ, τ', j, sl, n, h, e => by cases h; exact .inl ⟨e, fun i o z => by simp at z⟩
  | [], [], _ :: _, τ, τ', j, sl, n, h, e => by cases h
  | [], _ :: _, _, τ, τ', j, sl, n, h, e => by cases h
  | _ :: _, [], _, τ, τ', j, sl, n, h, e => by cases h
  | _ :: _, _ :: _, [], τ, τ', j, sl, n, h, e => by cases h
  | b :: bs, a :: as, f :: fs, τ, τ', j, sl, n, h, e => by
    have n' : (slL bs).Nodup := by
      cases b with
      | d z => exact n
      | sl k => exact (List.nodup_cons.mp (show (k :: slL bs).Nodup from n)).2
    have isv : ∀ z, a = .val z → putL bs as fs τ = some τ' → PutAt (b :: bs) (a :: as) (f :: fs) τ j sl := fun z ha h => by
      rcases putL_get n' h e with ⟨q1, q2⟩ | ⟨i, o0, o, s, q1, q2, q3, q4, q5⟩
      · refine .inl ⟨q1, fun i o z1 z2 => ?_⟩
        cases i with
        | zero => rw [ha] at z2; simp at z2
        | succ i => exact q2 i o (by simpa using z1) (by simpa using z2)
      · exact .inr ⟨i + 1, o0, o, s, by simpa using q1, by simpa using q2, by simpa using q3, q4, q5⟩
    cases a with
    | val z =>
      refine isv z rfl ?_
      unfold putL at h
      cases b <;> exact h
    | no => unfold putL at h; cases b <;> cases h
    | own o => unfold putL at h; cases b <;> cases h
    | io o0 =>
      cases b with
      | d z => unfold putL at h; cases h
      | sl k =>
        cases f with
        | io o =>
          have h : putL bs as fs (τ.set k ((τ.getD k .no).put o)) = some τ' := h
          have nk : k ∉ slL bs := (List.nodup_cons.mp (show (k :: slL bs).Nodup from n)).1
          rcases putL_get n' h e with ⟨q1, q2⟩ | ⟨i, o1, o', s, q1, q2, q3, q4, q5⟩
          · rcases get_set q1 with ⟨rfl, q, hl⟩ | ⟨hne, q1⟩
            · refine .inr ⟨0, o0, o, τ.getD j .no, rfl, rfl, rfl, ?_, q⟩
              simp [List.getD, hl]
            · refine .inl ⟨q1, fun i o z1 z2 => ?_⟩
              cases i with
              | zero =>
                have : k = j := by simpa using z1
                exact hne this.symm
              | succ i => exact q2 i o (by simpa using z1) (by simpa using z2)
          · have : j ≠ k := fun z => nk (by rw [← z]; exact slL_mem (i := i) q1)
            rw [List.getElem?_set_ne (Ne.symm this)] at q4
            exact .inr ⟨i + 1, o1, o', s, by simpa using q1, by simpa using q2, by simpa using q3, q4, q5⟩
        | _ => unfold putL at h; cases h
theorem putL_len : ∀ {bs : List BR} {as : List Sl} {fs τ τ' : T}, putL bs as fs τ = some τ' → τ'.length = τ.length
  | [], [], [], τ, τ', h => by cases h; rfl
  | [], [], _ :: _, τ, τ', h => by cases h
  | [], _ :: _, _, τ, τ', h => by cases h
  | _ :: _, [], _, τ, τ', h => by cases h
  | _ :: _, _ :: _, [], τ, τ', h => by cases h
  | b :: bs, a :: as, f :: fs, τ, τ', h => by
    unfold putL at h
    cases a with
    | val z => cases b <;> exact putL_len h
    | no => cases b <;> cases h
    | own o => cases b <;> cases h
    | io o0 =>
      cases b with
      | d z => cases h
      | sl k =>
        cases f with
        | io o => rw [putL_len h, List.length_set]
        | _ => cases h
theorem BRL.get {K : PySem.W.Frag} {F : Hp} {σ : St} : ∀ {vs : List V} {bs : List BR}, BRL K F σ vs bs → ∀ {i : Nat} {b : BR}, bs[i]? = some b → ∃ v, vs[i]? = some v ∧ BRep K F σ v b
  | _, _, .nil, i, b, e => by simp at e
  | _, _, .cons h r, 0, b, e => by simp at e; subst e; exact ⟨_, rfl, h⟩
  | _, _, .cons h r, i + 1, b, e => r.get (i := i) (by simpa using e)
theorem BRL.length {K : PySem.W.Frag} {F : Hp} {σ : St} : ∀ {vs : List V} {bs : List BR}, BRL K F σ vs bs → vs.length = bs.length
  | _, _, .nil => rfl
  | _, _, .cons _ r => congrArg (· + 1) r.length
def refAt (vs : List V) (i : Nat) : Addr := match vs[i]? with
  | some (.ref a) => a
  | _ => 0
def callM (H : Hp) (vs : List V) (as : List Sl) : MS := ⟨fun a => H a = none ∨ ∃ (i : Nat) (o : OV), as[i]? = some (Sl.io o) ∧ vs[i]? = some (V.ref a), refAt vs⟩
section
variable {K : PySem.W.Frag} {px : PX} {M : MS} {F H F' H' : Hp} {σ : St} {τ τ' : T} {vs : List V} {bs : List BR} {as : List Sl} {fs : T}
/-- the lent slot of an argument -/
theorem lent (s : SRel K M F H σ τ) (rb : BRL K F σ vs bs) (ea : avL bs τ = some as) {i : Nat} {o : OV} (h : as[i]? = some (.io o)) : ∃ j sl a u, bs[i]? = some (.sl j) ∧ τ[j]? = some sl ∧ sl.mut = some o ∧ vs[i]? = some (V.ref a) ∧ σ[j]? = some (some (V.ref a)) ∧ H a = some u ∧ F a = none ∧ M.m a ∧ OwnO K F o u := by
  rcases avL_get ea h with ⟨z, _, q⟩ | ⟨j, hb, ⟨d, _, q⟩ | ⟨sl, o', h1, h2, q⟩⟩
  · cases q
  · cases q
  · cases q
    obtain ⟨v, hv, rv⟩ := rb.get hb
    have rv : σ[j]? = some (some v) := rv
    obtain ⟨a, u, p1, p2, p3, p4, p5⟩ := s.own j sl _ h1 h2
    rw [p1] at rv
    cases rv
    exact ⟨j, sl, a, u, hb, h1, h2, hv, p1, p2, p3, p4, p5⟩
theorem callM_sub (s : SRel K M F H σ τ) (rb : BRL K F σ vs bs) (ea : avL bs τ = some as) : ∀ a, (callM H vs as).m a → M.m a := fun a h => by
  rcases h with h | ⟨i, o, h1, h2⟩
  · exact s.up a h
  · obtain ⟨j, sl, b, u, _, _, _, q, _, _, _, q2, _⟩ := lent s rb ea h1
    rw [q] at h2
    cases h2
    exact q2
theorem map_get {i : Nat} {v : V} (h : vs[i]? = some v) : (vs.map some)[i]? = some (some v) := by rw [List.getElem?_map, h]; rfl
theorem SRel.call (s : SRel K M F H σ τ) (rb : BRL K F σ vs bs) (ea : avL bs τ = some as) (nd : (slL bs).Nodup) : SRel K (callM H vs as) F H (vs.map some) as := by
  refine ⟨by rw [List.length_map, avL_len ea, rb.length]; exact Nat.le_refl _, fun a h => .inl h, s.sub, fun i d h => ?_, fun i sl o h m => ?_, fun i j sl tl b h1 m1 h2 m2 f1 f2 => ?_, fun i o h => ?_⟩
  · rcases avL_get ea h with ⟨z, hb, q⟩ | ⟨j, hb, ⟨d', h1, q⟩ | ⟨sl, o', h1, h2, q⟩⟩
    · cases q
      obtain ⟨v, hv, rv⟩ := rb.get hb
      exact ⟨v, map_get hv, rv⟩
    · cases q
      obtain ⟨v, hv, rv⟩ := rb.get hb
      have rv : σ[j]? = some (some v) := rv
      obtain ⟨v', p1, p2⟩ := s.val j _ h1
      rw [p1] at rv
      cases rv
      exact ⟨v, map_get hv, p2⟩
    · cases q
  · have hio : sl = .io o := by
      rcases avL_get ea h with ⟨z, _, q⟩ | ⟨j, hb, ⟨d', h1, q⟩ | ⟨sl', o', h1, h2, q⟩⟩
      · subst q; cases m
      · subst q; cases m
      · subst q; cases m; rfl
    subst hio
    obtain ⟨j, sl, a, u, q0, q1, q2, q3, q4, q5, q6, q7, q8⟩ := lent s rb ea h
    exact ⟨a, u, map_get q3, q5, q6, .inr ⟨i, o, h, q3⟩, q8⟩
  · have io : ∀ {i : Nat} {sl : Sl}, as[i]? = some sl → sl.mut ≠ none → ∃ o, sl = .io o := fun {i sl} h m => by
      rcases avL_get ea h with ⟨z, _, q⟩ | ⟨j, hb, ⟨d', h1, q⟩ | ⟨sl', o', h1, h2, q⟩⟩
      · subst q; exact absurd rfl m
      · subst q; exact absurd rfl m
      · exact ⟨o', q⟩
    obtain ⟨o1, rfl⟩ := io h1 m1
    obtain ⟨o2, rfl⟩ := io h2 m2
    obtain ⟨k1, sl1, a1, u1, q0, q1, q2, q3, q4, _⟩ := lent s rb ea h1
    obtain ⟨k2, sl2, a2, u2, r0, r1, r2, r3, r4, _⟩ := lent s rb ea h2
    rw [map_get q3] at f1
    rw [map_get r3] at f2
    cases f1
    cases f2
    have := s.apart k1 k2 sl1 sl2 _ q1 (by rw [q2]; exact fun z => nomatch z) r1 (by rw [r2]; exact fun z => nomatch z) q4 r4
    subst this
    exact slL_inj nd q0 r0
  · obtain ⟨j, sl, a, u, q0, q1, q2, q3, _⟩ := lent s rb ea h
    rw [map_get q3]
    show some (some (V.ref a)) = some (some (V.ref (refAt vs i)))
    unfold refAt
    rw [q3]
theorem put_mut {s : Sl} {o : OV} : (s.put o).mut = some o := by cases s <;> rfl
/-- behind the call -/
theorem SRel.back (s : SRel K M F H σ τ) (rb : BRL K F σ vs bs) (ea : avL bs τ = some as) (nd : (slL bs).Nodup) (g : Grow (callM H vs as) F H F' H') (s' : SRel K (callM H vs as) F' H' (vs.map some) fs) (ep : putL bs as fs τ = some τ') :
    SRel K M F' H' σ τ' := by
  have was : ∀ {j : Nat} {sl : Sl}, τ'[j]? = some sl → sl.mut ≠ none → ∃ s0, τ[j]? = some s0 ∧ s0.mut ≠ none := fun {j sl} h m => by
    rcases putL_get nd ep h with ⟨q, _⟩ | ⟨i, o0, o, s0, q1, q2, q3, q4, q5⟩
    · exact ⟨sl, q, m⟩
    · obtain ⟨j', sl', a, u, p0, p1, p2, _⟩ := lent s rb ea q2
      rw [q1] at p0
      cases p0
      exact ⟨sl', p1, by rw [p2]; exact fun z => nomatch z⟩
  refine ⟨by rw [putL_len ep]; exact s.len, fun a e => s.up a (g.there a e), s'.sub, fun j d h => ?_, fun j sl o h m => ?_, fun i j sl tl b h1 m1 h2 m2 f1 f2 => ?_, fun j o h => ?_⟩
  · rcases putL_get nd ep h with ⟨q, _⟩ | ⟨i, o0, o, s0, q1, q2, q3, q4, q5⟩
    · obtain ⟨v, e, r⟩ := s.val j d q
      exact ⟨v, e, r.mono g.frz⟩
    · cases s0 <;> cases q5
  · rcases putL_get nd ep h with ⟨q, un⟩ | ⟨i, o0, o', s0, q1, q2, q3, q4, q5⟩
    · obtain ⟨a, u, p1, p2, p3, p4, p5⟩ := s.own j sl o q m
      have out : ¬ (callM H vs as).m a := fun z => by
        rcases z with z | ⟨i, o1, z1, z2⟩
        · rw [p2] at z; cases z
        · obtain ⟨k, sk, b, w, r0, r1, r2, r3, r4, _⟩ := lent s rb ea z1
          rw [r3] at z2
          cases z2
          have := s.apart j k sl sk a q (by rw [m]; exact fun z => nomatch z) r1 (by rw [r2]; exact fun z => nomatch z) p1 r4
          subst this
          exact un i o1 r0 z1
      exact ⟨a, u, p1, g.keep a u p2 out, g.free a p3 (by rw [p2]; exact fun z => nomatch z) out, p4, p5.mono g.frz⟩
    · subst q5
      rw [put_mut] at m
      cases m
      obtain ⟨k, sk, b, w, r0, r1, r2, r3, r4, r5, r6, r7, _⟩ := lent s rb ea q2
      rw [q1] at r0
      cases r0
      obtain ⟨a, u, p1, p2, p3, p4, p5⟩ := s'.own i _ _ q3 rfl
      rw [map_get r3] at p1
      cases p1
      exact ⟨b, u, r4, p2, p3, r7, p5⟩
  · obtain ⟨s1, q1, n1⟩ := was h1 m1
    obtain ⟨s2, q2, n2⟩ := was h2 m2
    exact s.apart i j s1 s2 b q1 n1 q2 n2 f1 f2
  · rcases putL_get nd ep h with ⟨q, _⟩ | ⟨i, o0, o', s0, q1, q2, q3, q4, q5⟩
    · exact s.io j o q
    · cases s0 with
      | io o1 => exact s.io j o1 q4
      | _ => cases q5
theorem OwnR.back {v : V} {o : OV} (s : SRel K M F H σ τ) (rb : BRL K F σ vs bs) (ea : avL bs τ = some as) (nd : (slL bs).Nodup) (g : Grow (callM H vs as) F H F' H') (s' : SRel K (callM H vs as) F' H' (vs.map some) fs) (ep : putL bs as fs τ = some τ')
    (h : OwnR K (callM H vs as) F' H' (vs.map some) fs v o) : OwnR K M F' H' σ τ' v o := by
  obtain ⟨a, u, h1, h2, h3, h4, h5, h6⟩ := h
  refine ⟨a, u, h1, h2, h3, callM_sub s rb ea a h4, h5, fun j sl e m z => ?_⟩
  rcases putL_get nd ep e with ⟨q, un⟩ | ⟨i, o0, o', s0, q1, q2, q3, q4, q5⟩
  · obtain ⟨o1, e1⟩ := Option.ne_none_iff_exists'.mp m
    obtain ⟨b, w, p1, p2, p3, p4, p5⟩ := s.own j sl o1 q e1
    rw [p1] at z
    cases z
    rcases h4 with h4 | ⟨i, o2, z1, z2⟩
    · rw [p2] at h4; cases h4
    · obtain ⟨k, sk, b', w', r0, r1, r2, r3, r4, _⟩ := lent s rb ea z1
      rw [r3] at z2
      cases z2
      have := s.apart j k sl sk a q m r1 (by rw [r2]; exact fun z => nomatch z) p1 r4
      subst this
      exact un i o2 r0 z1
  · obtain ⟨k, sk, b', w', r0, r1, r2, r3, r4, _⟩ := lent s rb ea q2
    rw [q1] at r0
    cases r0
    rw [r4] at z
    cases z
    exact h6 i _ q3 (fun z => nomatch z) (map_get r3)
end
section
variable {px : PX} {W : WX} {X : Cx} {k : Nat} {f : Addr} {fd : FuncData} {ps : List Str} {x : Str} {p pos : Pos} {e : Expr} {es : List Expr}
theorem rd_call {K : PySem.W.Frag} {den : List Sl → DR} {fa : T → Rs (List BR)} {n : Nat} {σ : St} {H : Hp} {Q : VK} (hn : ∀ τ bs τ1, fa τ = .ok bs τ1 → bs.length = n) (h : rdX K px W (sCall den fa) σ H Q) :
    (∃ M F τ, SRel K M F H σ τ ∧ Post K px W M F H σ (fa τ) fun bs _ F' H' => ∀ vs, BRL K F' σ vs bs → spOf K px n den vs H' Q (WE W σ)) := by
  obtain ⟨M, F, τ, s, p⟩ := h
  refine ⟨M, F, τ, s, ?_⟩
  unfold sCall at p
  cases ef : fa τ with
  | stuck => rw [ef] at p; exact p.elim
  | exc y t => rw [ef] at p; exact p
  | ok bs τ1 =>
    rw [ef] at p
    intro F1 H1 g1 s1 vs rb
    have hl := hn _ _ _ ef
    have p : Post K px W M F H σ (if (slL bs).Nodup then (match avL bs τ1 with
      | some as => (match den as with
        | .ok r fs => (match putL bs as fs τ1 with | some τ2 => .ok r τ2 | none => .stuck)
        | .exc x fs => (match putL bs as fs τ1 with | some τ2 => .exc x τ2 | none => .stuck)
        | .stuck => .stuck)
      | none => .stuck) else .stuck) (RX K M σ Q) := p
    by_cases nd : (slL bs).Nodup
    · rw [if_pos nd] at p
      cases ea : avL bs τ1 with
      | none => rw [ea] at p; exact p.elim
      | some as =>
        simp only [ea] at p
        refine ⟨callM H1 vs as, F1, as, by rw [rb.length, hl], by rw [avL_len ea, hl], s1.call rb ea nd, ?_⟩
        have gm : ∀ {F' H' : Hp}, Grow (callM H1 vs as) F1 H1 F' H' → Grow M F H F' H' := fun g => g1.trans (g.mono (callM_sub s1 rb ea))
        cases ed : den as with
        | stuck => rw [ed] at p; exact p.elim
        | exc y fs =>
          simp only [ed] at p
          cases ep : putL bs as fs τ1 with
          | none => rw [ep] at p; exact p.elim
          | some τ2 =>
            simp only [ep] at p
            exact fun F' H' g' s' dd xd => p F' H' (gm g') (s1.back rb ea nd g' s' ep) dd xd
        | ok r fs =>
          simp only [ed] at p
          cases ep : putL bs as fs τ1 with
          | none => rw [ep] at p; exact p.elim
          | some τ2 =>
            simp only [ep] at p
            cases r with
            | d z => exact fun v F' H' g' s' rv => p F' H' (gm g') (s1.back rb ea nd g' s' ep) v rv
            | o z => exact fun v F' H' g' s' rv => p F' H' (gm g') (s1.back rb ea nd g' s' ep) v (rv.back s1 rb ea nd g' s' ep)
    · rw [if_neg nd] at p; exact p.elim
theorem jx_call {den : List Sl → DR} {fa : T → Rs (List BR)} {n : Nat} (F : FnOk X.prog X.w X.K X.mg X.base (L2.CX X.prog X.w) k f fd ps (spOf X.K px n den)) (hr : Room k X.A) (hg : Gl X x) (hm : X.mg x = some (.ref f)) (hk : PySem.W.keepIn X.K (.ref f) = true) (hb : Binds X.K fd ps []) (tk : Takes X W)
    (ha : JAB px W X (e :: es) fa) (hn : ∀ τ bs τ1, fa τ = .ok bs τ1 → bs.length = n) (hdb : (x == ("__debug__" : Str)) = false) (he : starEach (e :: es) X.env = (false, eval e X.env) :: starEach es X.env) (hpl : (backTo pos (starEach es X.env)).any (·.1) = false) :
    JX px W X (.Call (.Name x p) (e :: es) [] pos) (sCall den fa) :=
  PE.imp (pe_callS F hr hg hm hk hb (fun σ => passAt tk σ) ha hdb he hpl) fun σ H Q h => rd_call hn h
theorem pe_callS0 {CX : CXT} {sp : Sp} {E : St → XK} (F : FnOk X.prog X.w X.K X.mg X.base CX k f fd ps sp) (hr : Room k X.A) (hg : Gl X x) (hm : X.mg x = some (.ref f)) (hk : PySem.W.keepIn X.K (.ref f) = true) (hb : Binds X.K fd ps []) (hx : ∀ σ, PassesAt CX X σ (E σ))
    (hdb : (x == ("__debug__" : Str)) = false) : PE X (.Call (.Name x p) [] [] pos) (tCallS sp E tNil) := by
  refine ⟨fun pins s σ H Q I h => ?_⟩
  refine wpAny_Call_Name_kw (ld_glob I hg hm ?_ hdb)
  exact PySem.W.callWith_K0 I.kIn hk (run_fnS (us := []) F hr hb (hx σ) I .nil h)
theorem jx_call0 {den : List Sl → DR} (F : FnOk X.prog X.w X.K X.mg X.base (L2.CX X.prog X.w) k f fd ps (spOf X.K px 0 den)) (hr : Room k X.A) (hg : Gl X x) (hm : X.mg x = some (.ref f)) (hk : PySem.W.keepIn X.K (.ref f) = true) (hb : Binds X.K fd ps []) (tk : Takes X W)
    (hdb : (x == ("__debug__" : Str)) = false) : JX px W X (.Call (.Name x p) [] [] pos) (sCall den sBNil) :=
  PE.imp (pe_callS0 F hr hg hm hk hb (fun σ => passAt tk σ) hdb) fun σ H Q h => by
    obtain ⟨M, F, τ, s, p⟩ := rd_call (n := 0) (fun τ bs τ1 e => by cases e; rfl) h
    exact p F H .refl s [] .nil
end
end U
end

section
set_option Elab.async false
set_option linter.all false
set_option maxRecDepth 100000
namespace U
open PySem PySem.Spec PyProof.Rows L2

/-! ### sum of a tuple, min, max -/
theorem preSum_getD (ns : List Int) : ∀ k, k ≤ ns.length → preSum (fun i => ns.getD i 0) k = (ns.take k).sum
  | 0, _ => by simp [preSum]
  | k + 1, h => by
    have hk : k < ns.length := h
    rw [preSum, preSum_getD ns k (Nat.le_of_lt hk), List.take_add_one, List.sum_append]
    simp [List.getD, hk]
theorem ints_at : ∀ {its : List Value} {ns : List Int}, Vals (ns.map V.int) its → ∀ (i : Nat) (v : Value), its[i]? = some v → ∃ t, v = .int (ns.getD i 0) t
  | _, [], .nil, i, v, h => by simp at h
  | _, n :: ns, .cons r t, 0, v, h => by
    obtain ⟨t, rfl⟩ := r
    have : v = .int n t := by simpa using h.symm
    exact ⟨t, by simpa using this⟩
  | _, n :: ns, .cons r t, i + 1, v, h => by
    obtain ⟨t', e⟩ := ints_at t i v (by simpa using h)
    exact ⟨t', by simpa using e⟩
section
variable {X : Cx}
theorem sum_tupR (hc : X.calm = true) {pins : List (Addr × Obj)} {s : Shared} {σ : St} {H : Hp} {Q : VK} {a : Addr} {ns : List Int} (I : Inv X pins σ H s) (hq : SqT X.K H a (ns.map V.int)) (q : Q (.int ns.sum) H) :
    wpAny (model X.prog X.w) X.A (call (.builtin "sum") [.ref a]) (EP X pins σ Q) X.xe s := by
  obtain ⟨its, rv, p, _⟩ := I.tuple hq
  have hl : its.length = ns.length := by rw [← rv.length]; simp
  refine call_sum_walkAnyS (PySem.W.iter_tupleW (A := X.A.in1) (I.ok.hd hc) (show s.heap.IsTuple a its.toArray from p) fun s₂ e W st hfp hw hk => ?_)
  refine ⟨_, _, _, _, _, _, _, fun i => ns.getD i 0, rfl, W, st, hfp, fun i v hv => ints_at rv i v (by simpa using hv), fun s' t' m => ?_⟩
  obtain ⟨h', tk, rfl, hk'⟩ := PySem.W.moved_old e rfl m
  have e1 : preSum (fun i => ns.getD i 0) its.toArray.size = ns.sum := by
    rw [preSum_getD ns _ (by simp; omega), List.take_of_length_le (by simp; omega)]
  exact ⟨.int ns.sum, H, I.kept hk', ⟨t', by rw [e1]⟩, q⟩
def gSum2 : D → Option PR
  | .lst ds => (U.intsOf ds).map fun bs => .d (.int bs.sum)
  | .tup ds => (U.intsOf ds).map fun bs => .d (.int bs.sum)
  | _ => none
theorem cr_sum2 (hc : X.calm = true) : CallR X (.builtin "sum") (rC X.K (g1 gSum2)) := by
  intro pins s σ H xs us Q I rs ⟨F, ds, r, sb, n, hg, pw⟩
  obtain ⟨d, rfl, hg⟩ := g1_some hg
  obtain ⟨x, rfl, n1⟩ := n.one
  cases d <;> first | (cases hg; done) | skip
  · obtain ⟨bs, e1, rfl⟩ := map_some hg
    obtain ⟨a, vs, rfl, ha, r1⟩ := n1.tup sb
    rw [ints_rep r1 e1] at ha
    obtain ⟨u, rfl, ru⟩ := rs.one
    cases ru
    exact sum_tupR hc I (.of ha) (pw.scal sb (.int _))
  · obtain ⟨bs, e1, rfl⟩ := map_some hg
    obtain ⟨a, vs, rfl, ha, r1⟩ := n1.lst sb
    rw [ints_rep r1 e1] at ha
    exact cr_sum hc pins s σ H _ us Q I rs ⟨a, bs, rfl, .of ha, pw.scal sb (.int _)⟩
def minI : Int → List Int → Int
  | m, [] => m
  | m, n :: ns => minI (if n < m then n else m) ns
def maxI : Int → List Int → Int
  | m, [] => m
  | m, n :: ns => maxI (if m < n then n else m) ns
theorem minI_le : ∀ (ns : List Int) (m : Int), minI m ns ≤ m ∧ ∀ n ∈ ns, minI m ns ≤ n
  | [], m => ⟨Int.le_refl _, fun n h => by cases h⟩
  | k :: ns, m => by
    obtain ⟨h1, h2⟩ := minI_le ns (if k < m then k else m)
    have hk : (if k < m then k else m) ≤ m ∧ (if k < m then k else m) ≤ k := by split <;> omega
    unfold minI
    refine ⟨Int.le_trans h1 hk.1, fun n hn => ?_⟩
    rcases List.mem_cons.mp hn with rfl | hn
    · exact Int.le_trans h1 hk.2
    · exact h2 n hn
theorem maxI_le : ∀ (ns : List Int) (m : Int), m ≤ maxI m ns ∧ ∀ n ∈ ns, n ≤ maxI m ns
  | [], m => ⟨Int.le_refl _, fun n h => by cases h⟩
  | k :: ns, m => by
    obtain ⟨h1, h2⟩ := maxI_le ns (if m < k then k else m)
    have hk : m ≤ (if m < k then k else m) ∧ k ≤ (if m < k then k else m) := by split <;> omega
    unfold maxI
    refine ⟨Int.le_trans hk.1 h1, fun n hn => ?_⟩
    rcases List.mem_cons.mp hn with rfl | hn
    · exact Int.le_trans hk.2 h1
    · exact h2 n hn
theorem minI_mem : ∀ (ns : List Int) (m : Int), minI m ns = m ∨ minI m ns ∈ ns
  | [], m => .inl rfl
  | k :: ns, m => by
    unfold minI
    rcases minI_mem ns (if k < m then k else m) with h | h
    · rw [h]; split
      · exact .inr (List.mem_cons_self ..)
      · exact .inl rfl
    · exact .inr (List.mem_cons_of_mem _ h)
theorem maxI_mem : ∀ (ns : List Int) (m : Int), maxI m ns = m ∨ maxI m ns ∈ ns
  | [], m => .inl rfl
  | k :: ns, m => by
    unfold maxI
    rcases maxI_mem ns (if m < k then k else m) with h | h
    · rw [h]; split
      · exact .inr (List.mem_cons_self ..)
      · exact .inl rfl
    · exact .inr (List.mem_cons_of_mem _ h)
def gMin : List D → Option PR
  | [.lst ds] => (match U.intsOf ds with
    | some (n :: ns) => some (.d (.int (minI n ns)))
    | _ => none)
  | [.int i, .int j] => some (.d (.int (if j < i then j else i)))
  | _ => none
def gMax : List D → Option PR
  | [.lst ds] => (match U.intsOf ds with
    | some (n :: ns) => some (.d (.int (maxI n ns)))
    | _ => none)
  | [.int i, .int j] => some (.d (.int (if j > i then j else i)))
  | _ => none
theorem cr_minU (hc : X.calm = true) : CallR X (.builtin "min") (rC X.K gMin) := by
  intro pins s σ H xs us Q I rs ⟨F, ds, r, sb, n, hg, pw⟩
  unfold gMin at hg
  split at hg
  · rename_i es
    obtain ⟨x, rfl, n1⟩ := n.one
    split at hg
    · rename_i k ns e1
      cases hg
      obtain ⟨a, vs, rfl, ha, r1⟩ := n1.lst sb
      rw [ints_rep r1 e1] at ha
      refine cr_min hc pins s σ H _ us Q I rs ⟨a, k :: ns, rfl, .of ha, by simp, fun m hm hle => ?_⟩
      have h1 := minI_le ns k
      have : m = minI k ns := by
        have a1 := hle (minI k ns) ((minI_mem ns k).elim (fun q => by rw [q]; exact List.mem_cons_self ..) fun q => List.mem_cons_of_mem _ q)
        have a2 : minI k ns ≤ m := by
          rcases List.mem_cons.mp hm with rfl | hm
          · exact h1.1
          · exact h1.2 m hm
        omega
      rw [this]; exact pw.scal sb (.int _)
    · cases hg
  · obtain ⟨x, y, rfl, n1, n2⟩ := n.two
    cases hg
    exact call_min2 hc pins s σ H _ us Q I rs ⟨_, _, by rw [n1.int, n2.int], pw.scal sb (.int _)⟩
  · cases hg
theorem cr_maxU (hc : X.calm = true) : CallR X (.builtin "max") (rC X.K gMax) := by
  intro pins s σ H xs us Q I rs ⟨F, ds, r, sb, n, hg, pw⟩
  unfold gMax at hg
  split at hg
  · rename_i es
    obtain ⟨x, rfl, n1⟩ := n.one
    split at hg
    · rename_i k ns e1
      cases hg
      obtain ⟨a, vs, rfl, ha, r1⟩ := n1.lst sb
      rw [ints_rep r1 e1] at ha
      refine cr_max hc pins s σ H _ us Q I rs ⟨a, k :: ns, rfl, .of ha, by simp, fun m hm hle => ?_⟩
      have h1 := maxI_le ns k
      have : m = maxI k ns := by
        have a1 := hle (maxI k ns) ((maxI_mem ns k).elim (fun q => by rw [q]; exact List.mem_cons_self ..) fun q => List.mem_cons_of_mem _ q)
        have a2 : m ≤ maxI k ns := by
          rcases List.mem_cons.mp hm with rfl | hm
          · exact h1.1
          · exact h1.2 m hm
        omega
      rw [this]; exact pw.scal sb (.int _)
    · cases hg
  · obtain ⟨x, y, rfl, n1, n2⟩ := n.two
    cases hg
    exact call_max2 hc pins s σ H _ us Q I rs ⟨_, _, by rw [n1.int, n2.int], pw.scal sb (.int _)⟩
  · cases hg
end
/-! ### a op b op c -/
section
variable {px : PX} {W : WX} {X : Cx} {pos : Pos} {a b c : Expr} {g g' : D → D → Option PR} {fa fb fc : T → Rs BR}
def sChain (g g' : D → D → Option PR) (fa fb fc : T → Rs BR) : T → Rs PR := fun τ => (fa τ).bind fun x τ1 => (fb τ1).bind fun y τ2 => (ap2 g x y τ2).bind fun r τ3 => match r with
  | .d (.bl true) => (fc τ3).bind fun z τ4 => ap2 g' y z τ4
  | .d (.bl false) => .ok (.d (.bl false)) τ3
  | _ => .stuck
theorem rd_chain {K : PySem.W.Frag} {σ : St} {H : Hp} {Q : VK} (h : rdX K px W (sChain g g' fa fb fc) σ H Q) : tChain (r2 K g) (r2 K g') (rdB K px W fa) (rdB K px W fb) (rdB K px W fc) σ H Q := by
  obtain ⟨M, F, τ, s, p⟩ := h
  refine rdB_bind s p fun x τ1 F1 H1 v g1 s1 rv p1 => rdB_bind s1 p1 fun y τ2 F2 H2 u g2 s2 ru p2 => ?_
  obtain ⟨d, e, r, e1, e2, e3, p3⟩ : ∃ d e r, x.at τ2 = some d ∧ y.at τ2 = some e ∧ g d e = some r ∧ ap2 g x y τ2 = .ok r τ2 := by
    unfold ap2 at p2 ⊢
    cases q1 : x.at τ2 with
    | none => simp only [q1] at p2; exact p2.elim
    | some d => cases q2 : y.at τ2 with
      | none => simp only [q1, q2] at p2; exact p2.elim
      | some e =>
        cases q3 : g d e with
        | none => simp only [q1, q2, q3] at p2; exact p2.elim
        | some r => exact ⟨d, e, r, rfl, rfl, q3, by simp only [q3]⟩
  rw [p3] at p2
  refine ⟨F2, d, e, r, s2.sub, (rv.mono g2.frz).now s2 e1, ru.now s2 e2, e3, ?_⟩
  have p2 : Post K px W M F2 H2 σ (match r with
    | .d (.bl true) => (fc τ2).bind fun z τ4 => ap2 g' y z τ4
    | .d (.bl false) => .ok (.d (.bl false)) τ2
    | _ => .stuck) (RX K M σ Q) := p2
  cases r with
  | o z => exact p2.elim
  | d z =>
    cases z with
    | bl k =>
      intro w F3 H3 n3 rw'
      cases rw'
      refine ⟨k, rfl, ?_⟩
      have g3 : Grow M F2 H2 F3 H3 := n3.grow
      have s3 := n3.srel s2
      cases k with
      | true =>
        rw [if_pos rfl]
        refine rdB_bind s3 (Post.from p2 g3) fun z τ4 F4 H4 w g4 s4 rw' p4 => ?_
        obtain ⟨d', e', r', e1', e2', e3', p5⟩ := ap2_ok p4
        exact ⟨F4, d', e', r', s4.sub, (ru.mono (g3.frz.trans g4.frz)).now s4 e1', rw'.now s4 e2', e3', p5.pw s4⟩
      | false =>
        rw [if_neg Bool.false_ne_true]
        exact p2 F3 H3 g3 s3 _ (.bl false)
    | _ => exact p2.elim
theorem jx_chain {op op' : CmpOp} (ho : OpR X (compareOp op) (r2 X.K g)) (ho' : OpR X (compareOp op') (r2 X.K g')) (ha : JB px W X a fa) (hb : JB px W X b fb) (hc : JB px W X c fc) (hm : lastMarks [op, op'] [b, c] = false) :
    JX px W X (.Compare a [op, op'] [b, c] pos) (sChain g g' fa fb fc) := PE.imp (pe_chain ho ho' ha hb hc hm) fun σ H Q h => rd_chain h
theorem jt_chain {op op' : CmpOp} (ho : OpR X (compareOp op) (r2 X.K g)) (ho' : OpR X (compareOp op') (r2 X.K g')) (ha : JB px W X a fa) (hb : JB px W X b fb) (hc : JB px W X c fc) (hm : lastMarks [op, op'] [b, c] = false) :
    JT px W X (.Compare a [op, op'] [b, c] pos) (sTB (sChain g g' fa fb fc)) := PT.imp (pt_chain ho ho' ha hb hc hm) fun σ H Q h => rd_chain (rd_tb h)
end
end U
end

section
set_option Elab.async false
set_option linter.all false
set_option maxRecDepth 100000
namespace U
open PySem PySem.Spec PyProof.Rows L2

/-! ### isinstance -/
def D.ty : D → Option String
  | .non => some "NoneType"
  | .bl _ => some "bool"
  | .int _ => some "int"
  | .str _ => some "str"
  | .tup _ => some "tuple"
  | .lst _ => some "list"
  | .ptp _ => some "tuple"
  | _ => none
theorem Now.tyX {K : PySem.W.Frag} {F H : Hp} {v : V} {d : D} {t : String} (s : Sub F H) (n : Now K F H v d) (e : d.ty = some t) : TyX K H v (.type t) := by
  cases d with
  | non => cases e; rw [n.non]; exact .base .non
  | bl b => cases e; rw [n.bl]; exact .base (.bl _)
  | int b => cases e; rw [n.int]; exact .base (.int _)
  | str b => cases e; rw [n.str]; exact .base (.str _)
  | tup b => cases e; obtain ⟨a, vs, rfl, h, _⟩ := n.tup s; exact .base (.tup h)
  | lst b => cases e; obtain ⟨a, vs, rfl, h, _⟩ := n.lst s; exact .base (.lst h)
  | ptp b => cases e; obtain ⟨a, o, vs, rfl, h, _⟩ := n.ptp s; exact .fTuple h
  | _ => cases e
section
variable {px : PX} {W : WX} {X : Cx} {pos : Pos} {e : Expr}
theorem pe_tyn {x : Str} {id : String} (hg : Gl X x) (hm : X.mg x = none) (hv : bootBuiltins x = some (.type id)) (hn : x ≠ "__name__") (hdb : (x == ("__debug__" : Str)) = false) : PE X (.Name x pos) (tC (.ty id)) :=
  ⟨fun pins s σ H Q I h => ld_blt I hg hm hv ⟨.ty id, H, I, rfl, h⟩ hn hdb⟩
def isB (t : String) (cs : List String) : Bool := cs.any fun c => t == c || (t == "bool" && c == "int")
def sIsi (cs : List String) (f : T → Rs BR) : T → Rs PR := fun τ => (f τ).bind fun x τ1 => match x.at τ1 with
  | some d => (match d.ty with
    | some t => .ok (.d (.bl (isB t cs))) τ1
    | none => .stuck)
  | none => .stuck
def tys : List String := ["NoneType", "bool", "int", "str", "tuple", "list"]
def cls6 : List String := ["bool", "int", "str", "tuple", "list", "dict"]
theorem ty_mem {d : D} {t : String} (h : d.ty = some t) : t ∈ tys := by cases d <;> cases h <;> simp [tys]
theorem kit_all : ∀ t ∈ tys, ∀ c ∈ cls6, kitB t c = some (isB t [c]) := by decide +kernel
theorem kit_any {K : PySem.W.Frag} {t : String} (ht : t ∈ tys) : ∀ cs : List String, (∀ c ∈ cs, c ∈ cls6) → PySem.W.kitAny K (.type t) (cs.map Value.type) = some (isB t cs)
  | [], _ => rfl
  | c :: cs, h => by
    have h1 := kit_all t ht c (h c (List.mem_cons_self ..))
    have h2 := kit_any (K := K) ht cs fun z hz => h z (List.mem_cons_of_mem _ hz)
    have e1 : isB t (c :: cs) = (isB t [c] || isB t cs) := by simp [isB]
    refine kitAny_cons (kit_ty h1) (fun q => ?_) fun q => ?_
    · rw [h2, e1, q]; rfl
    · rw [e1, q]; rfl
theorem jx_isi1 {f : T → Rs BR} {x : Str} {c : String} {p p2 : Pos} (hg : Gl X "isinstance") (hm : X.mg "isinstance" = none) (ha : JB px W X e f) (hgx : Gl X x) (hmx : X.mg x = none) (hv : bootBuiltins x = some (.type c)) (hc : c ∈ cls6) (hn : x ≠ "__name__") (hdb : (x == ("__debug__" : Str)) = false)
    (he : starEach [e, .Name x p2] X.env = (false, eval e X.env) :: starEach [.Name x p2] X.env) :
    JX px W X (.Call (.Name "isinstance" p) [e, .Name x p2] [] pos) (sIsi [c] f) := by
  refine PE.imp (pe_callB call_isi hg hm boot_isinstance (pa_cons ha (pa_cons (pe_tyn hgx hmx hv hn hdb) pa_nil rfl) he) (by decide) (by decide) he rfl) fun σ H Q ⟨M, F, τ, s, p⟩ => ?_
  refine rdB_bind s p fun b τ1 F1 H1 v g1 s1 rv p1 => ?_
  show rIsi X.K [v, .ty c] H1 Q
  cases e1 : b.at τ1 with
  | none => simp only [e1] at p1; exact p1.elim
  | some d =>
    simp only [e1] at p1
    cases e2 : d.ty with
    | none => simp only [e2] at p1; exact p1.elim
    | some t =>
      simp only [e2] at p1
      exact ⟨v, .ty c, .type t, .type c, _, rfl, .ty c, (rv.now s1 e1).tyX s1.sub e2, kit_ty (kit_all t (ty_mem e2) c hc), p1 F1 H1 .refl s1 _ (.bl _)⟩
theorem jx_isi2 {f : T → Rs BR} {x y : Str} {c c' : String} {p p2 p3 p4 : Pos} {k : Nat} (hg : Gl X "isinstance") (hm : X.mg "isinstance" = none) (ha : JB px W X e f) (hgx : Gl X x) (hmx : X.mg x = none) (hv : bootBuiltins x = some (.type c)) (hc : c ∈ cls6) (hn : x ≠ "__name__") (hdb : (x == ("__debug__" : Str)) = false)
    (hgy : Gl X y) (hmy : X.mg y = none) (hvy : bootBuiltins y = some (.type c')) (hc' : c' ∈ cls6) (hny : y ≠ "__name__") (hdby : (y == ("__debug__" : Str)) = false)
    (he : starEach [e, .Tuple [.Name x p2, .Name y p3] k p4] X.env = (false, eval e X.env) :: starEach [.Tuple [.Name x p2, .Name y p3] k p4] X.env) :
    JX px W X (.Call (.Name "isinstance" p) [e, .Tuple [.Name x p2, .Name y p3] k p4] [] pos) (sIsi [c, c'] f) := by
  refine PE.imp (pe_callB call_isiT hg hm boot_isinstance (pa_cons ha (pa_cons (pe_tup (pa_cons (pe_tyn hgx hmx hv hn hdb) (pa_cons (pe_tyn hgy hmy hvy hny hdby) pa_nil rfl) rfl)) pa_nil rfl) he) (by decide) (by decide) he rfl) fun σ H Q ⟨M, F, τ, s, p⟩ => ?_
  refine rdB_bind s p fun b τ1 F1 H1 v g1 s1 rv p1 => ⟨by show 2 ≤ sizeLine; decide, fun tp htp => ?_⟩
  show rIsiT X.K [v, .ref tp] (upd H1 tp (.tup [.ty c, .ty c'])) Q
  cases e1 : b.at τ1 with
  | none => simp only [e1] at p1; exact p1.elim
  | some d =>
    simp only [e1] at p1
    cases e2 : d.ty with
    | none => simp only [e2] at p1; exact p1.elim
    | some t =>
      simp only [e2] at p1
      have s2 := s1.alloc (o := .tup [.ty c, .ty c']) htp
      exact ⟨v, tp, [.ty c, .ty c'], .type t, [.type c, .type c'], _, rfl, upd_same, .cons (.ty c) (.cons (.ty c') .nil), (rv.now s2 e1).tyX s2.sub e2, kit_any (ty_mem e2) [c, c'] (by simp [hc, hc']), p1 F1 _ (grow_alloc htp) s2 _ (.bl _)⟩

/-! ### methods that change a list -/
def mAppend : OV → List D → Option (D × OV)
  | .l ds, [d] => if ds.length < lim then some (.non, .l (ds ++ [d])) else none
  | _, _ => none
def mPopAt : OV → List D → Option (D × OV)
  | .l ds, [.int i] => if i.natAbs < 2 ^ 63 then (match seqIndex? i ds.length with
    | some k => (ds[k]?).map fun d => (d, .l (ds.eraseIdx k))
    | none => none) else none
  | _, _ => none
def mPop : OV → List D → Option (D × OV)
  | .l ds, [] => (ds[ds.length - 1]?).map fun d => (d, .l ds.dropLast)
  | _, _ => none
/-- what a method does to the object at a -/
def MtO (X : Cx) (id : String) (g : OV → List D → Option (D × OV)) : Prop :=
  MtM X id (fun x xs H Q => ∃ F a u o ds d o', x = .ref a ∧ Sub F H ∧ H a = some u ∧ F a = none ∧ OwnO X.K F o u ∧ RepL X.K F xs ds ∧ g o ds = some (d, o') ∧ ∀ v u', OwnO X.K F o' u' → Rep X.K F v d → Q v (upd H a u'))
theorem mo_append : MtO X "list.append" mAppend := by
  intro pins s σ H x xs v us Q I rx rs ⟨F, a, u, o, ds, d, o', ex, sb, hu, hf, ho, rl, hg, q⟩
  cases ho with
  | l r =>
    match ds, rl, hg with
    | [z], .cons rz .nil, hg =>
      obtain ⟨c, e⟩ := ite_some hg
      cases e
      exact mt_append pins s σ H x _ v us Q I rx rs ⟨a, _, _, ex, rfl, hu, by rw [r.length]; exact lim_lt c, q _ _ (.l (r.append (.cons rz .nil))) .non⟩
  | dK _ _ => cases hg
  | dT _ _ => cases hg
theorem mo_popAt : MtO X "list.pop" mPopAt := by
  intro pins s σ H x xs v us Q I rx rs ⟨F, a, u, o, ds, d, o', ex, sb, hu, hf, ho, rl, hg, q⟩
  cases ho with
  | @l es vs r =>
    match ds, rl, hg with
    | [.int i], .cons rz .nil, hg =>
      have hg : (if i.natAbs < 2 ^ 63 then (match seqIndex? i es.length with
        | some k => (es[k]?).map fun d => (d, OV.l (es.eraseIdx k))
        | none => none) else none) = some (d, o') := hg
      by_cases c : i.natAbs < 2 ^ 63
      · rw [if_pos c] at hg
        cases hk : seqIndex? i es.length with
        | none => rw [hk] at hg; cases hg
        | some k =>
          rw [hk] at hg
          obtain ⟨z, hz, e⟩ := map_some hg
          cases e
          obtain ⟨y, hy, ry⟩ := r.get hz
          cases rz
          exact mt_popAt pins s σ H x _ v us Q I rx rs ⟨a, _, i, k, y, ex, rfl, hu, by omega, by omega, by rw [r.length]; exact hk, hy, q _ _ (.l (r.eraseIdx k)) ry⟩
      · rw [if_neg c] at hg; cases hg
  | dK _ _ => cases hg
  | dT _ _ => cases hg
theorem RepL.dropLast {K : PySem.W.Frag} {F : Hp} {vs : List V} {ds : List D} (h : RepL K F vs ds) : RepL K F vs.dropLast ds.dropLast := by
  rw [List.dropLast_eq_take, List.dropLast_eq_take, h.length]; exact h.take _
theorem mo_pop : MtO X "list.pop" mPop := by
  intro pins s σ H x xs v us Q I rx rs ⟨F, a, u, o, ds, d, o', ex, sb, hu, hf, ho, rl, hg, q⟩
  cases ho with
  | l r =>
    match ds, rl, hg with
    | [], .nil, hg =>
      obtain ⟨z, hz, e⟩ := map_some hg
      cases e
      obtain ⟨y, hy, ry⟩ := r.get hz
      exact mt_pop pins s σ H x _ v us Q I rx rs ⟨a, _, y, ex, rfl, hu, by rw [r.length]; exact hy, q _ _ (.l r.dropLast) ry⟩
  | dK _ _ => cases hg
  | dT _ _ => cases hg
def sMeth (i : Nat) (g : OV → List D → Option (D × OV)) (fa : T → Rs (List D)) : T → Rs PR := fun τ => match τ[i]? with
  | some s0 => (match s0.mut with
    | some (.l _) => (fa τ).bind fun ds τ1 => (match τ1[i]? with
      | some s1 => (match s1.mut with
        | some o => (match g o ds with
          | some (d, o') => .ok (.d d) (τ1.set i (s1.put o'))
          | none => .stuck)
        | none => .stuck)
      | none => .stuck)
    | _ => .stuck)
  | none => .stuck
theorem rd_meth {K : PySem.W.Frag} {i : Nat} {g : OV → List D → Option (D × OV)} {fa : T → Rs (List D)} {σ : St} {H : Hp} {Q : VK} (h : rdX K px W (sMeth i g fa) σ H Q) :
    ∃ a, σ[i]? = some (some (V.ref a)) ∧ (∃ xs, SqL K H a xs) ∧ rdA K px W fa σ H fun xs H2 => ∃ F a' u o ds d o', V.ref a = .ref a' ∧ Sub F H2 ∧ H2 a' = some u ∧ F a' = none ∧ OwnO K F o u ∧ RepL K F xs ds ∧ g o ds = some (d, o') ∧ ∀ v u', OwnO K F o' u' → Rep K F v d → Q v (upd H2 a' u') := by
  obtain ⟨M, F, τ, s, p⟩ := h
  unfold sMeth at p
  cases e0 : τ[i]? with
  | none => rw [e0] at p; exact p.elim
  | some s0 =>
    simp only [e0] at p
    cases m0 : s0.mut with
    | none => rw [m0] at p; exact p.elim
    | some ov =>
      simp only [m0] at p
      cases ov with
      | d _ _ _ => exact p.elim
      | l es =>
        obtain ⟨a, u, h1, h2, h3, h4, h5⟩ := s.own i s0 _ e0 m0
        refine ⟨a, h1, ?_, M, F, τ, s, p.bind.imp fun ds τ1 F1 H1 g1 s1 p1 vs rvs => ?_⟩
        · cases h5 with
          | l r => exact ⟨_, .of h2⟩
        · cases e1 : τ1[i]? with
          | none => simp only [e1] at p1; exact p1.elim
          | some sl =>
            simp only [e1] at p1
            cases m1 : sl.mut with
            | none => simp only [m1] at p1; exact p1.elim
            | some o =>
              simp only [m1] at p1
              cases eg : g o ds with
              | none => simp only [eg] at p1; exact p1.elim
              | some z =>
                obtain ⟨d, o'⟩ := z
                simp only [eg] at p1
                obtain ⟨a1, u1, q1, q2, q3, q4, q5⟩ := s1.own i sl o e1 m1
                rw [h1] at q1
                cases q1
                refine ⟨F1, a, u1, o, ds, d, o', rfl, s1.sub, q2, q3, q5, rvs, eg, fun v u' ho' rv => ?_⟩
                obtain ⟨gw, sw⟩ := s1.write e1 m1 h1 q2 q3 q4 ho'
                exact p1 F1 _ gw sw v rv
variable {x : Str} {xp apos cpos : Pos} {es : List Expr}
theorem jx_meth {i : Nat} {name : Str} {id : String} {g : OV → List D → Option (D × OV)} {fa : T → Rs (List D)} (slot : Slot "list" name id) (hty : typeOf (.builtin id) = pure (.type "method_descriptor")) (hm : MtO X id g) (ho : PE X (.Name x xp) (tVar i)) (ha : JA px W X (e :: es) fa)
    (hbase : attributeBase (.Name x xp) name X.env (eval (.Name x xp) X.env) = eval (.Name x xp) X.env)
    (hfew : ((backTo cpos (starEach (e :: es) X.env)).all (fun x => !x.1) && (backToKw cpos (keywordEach [] X.env)).all (fun x => x.1.isSome) && decide ((e :: es).length + ([] : List Keyword).length + (if ([] : List Keyword).isEmpty then 0 else 1) < 30)) = true)
    (hline : (apos.endLine == cpos.line) = true) (hs : starEach (e :: es) X.env = (false, eval e X.env) :: starEach es X.env) (hplain : (backTo cpos (starEach es X.env)).any (·.1) = false) :
    JX px W X (.Call (.Attribute (.Name x xp) name apos) (e :: es) [] cpos) (sMeth i g fa) :=
  PE.imp (pe_bm PySem.F.plainAttrs_list slot hty hm ho ha hbase hfew hline hs hplain) fun σ H Q h => by
    obtain ⟨a, h1, h2, h3⟩ := rd_meth h
    exact ⟨_, h1, .inl ⟨rfl, h2⟩, h3⟩
theorem jx_meth0 {i : Nat} {name : Str} {id : String} {g : OV → List D → Option (D × OV)} (slot : Slot "list" name id) (hty : typeOf (.builtin id) = pure (.type "method_descriptor")) (hm : MtO X id g) (ho : PE X (.Name x xp) (tVar i))
    (hbase : attributeBase (.Name x xp) name X.env (eval (.Name x xp) X.env) = eval (.Name x xp) X.env) (hline : (apos.endLine == cpos.line) = true) :
    JX px W X (.Call (.Attribute (.Name x xp) name apos) [] [] cpos) (sMeth i g sNil) :=
  PE.imp (pe_bm0 PySem.F.plainAttrs_list slot hty hm ho hbase hline) fun σ H Q h => by
    obtain ⟨a, h1, h2, M, F, τ, s, p⟩ := rd_meth h
    exact ⟨_, h1, .inl ⟨rfl, h2⟩, p F H .refl s [] .nil⟩
/-! ### x[i] = .. -/
def sStore (i : Nat) (fe fi : T → Rs D) : T → SR := fun τ => (fe τ).s fun d τ1 => match τ1[i]? with
  | some s1 => (match s1.mut with
    | some (.l _) => (fi τ1).s fun k τ2 => (match τ2[i]? with
      | some s2 => (match s2.mut, k with
        | some (.l ds), .int j => (match ixN ds.length j with
          | some m => .nx (τ2.set i (s2.put (.l (ds.set m d))))
          | none => .stuck)
        | _, _ => .stuck)
      | none => .stuck)
    | _ => .stuck)
  | none => .stuck
theorem js_store {i : Nat} {ie : Expr} {p2 spos : Pos} {fe fi : T → Rs D} (ho : PE X (.Name x xp) (tVar i)) (hi : JE px W X ie fi) (he : JE px W X e fe)
    (ha : ∀ v, assign (.Subscript (.Name x xp) ie p2) X.env v = (do
      let ov ← holding [v] (eval (.Name x xp) X.env)
      let iv ← holding [v, ov] (eval ie X.env)
      standAt p2
      holding [v, ov, iv] (setItem ov iv v)
      release [v, ov, iv] []))
    (hs : swapsWithSole [.Subscript (.Name x xp) ie p2] e spos.line X.env = pure false) (hw : swappedStores [.Subscript (.Name x xp) ie p2] e X.env = pure none) (h1 : (assignEach [.Subscript (.Name x xp) ie p2] X.env).map (·.2) = [assign (.Subscript (.Name x xp) ie p2) X.env]) :
    JS px W X (.Assign [.Subscript (.Name x xp) ie p2] e spos) (sStore i fe fi) := by
  refine PS.imp (ps_asg he (pg_sub ho hi set_list ha) hs hw h1) fun D σ H ⟨M, F, τ, s, p⟩ => ?_
  refine rdE_s s p fun d τ1 F1 H1 v g1 s1 rv q => ?_
  cases e1 : τ1[i]? with
  | none => simp only [e1] at q; exact q.elim
  | some sl =>
    simp only [e1] at q
    cases m1 : sl.mut with
    | none => simp only [m1] at q; exact q.elim
    | some ov =>
      simp only [m1] at q
      cases ov with
      | d _ _ _ => exact q.elim
      | l ds =>
        obtain ⟨a, u, h1, h2, h3, h4, h5⟩ := s1.own i sl _ e1 m1
        refine ⟨_, h1, rdE_s s1 q fun k τ2 F2 H2 w g2 s2 rk q2 => ?_⟩
        cases e2 : τ2[i]? with
        | none => simp only [e2] at q2; exact q2.elim
        | some sl2 =>
          simp only [e2] at q2
          cases m2 : sl2.mut with
          | none => simp only [m2] at q2; exact q2.elim
          | some ov2 =>
            cases ov2 with
            | d _ _ _ => simp only [m2] at q2; exact q2.elim
            | l es2 =>
              cases k with
              | int j =>
                simp only [m2] at q2
                cases ek : ixN es2.length j with
                | none => simp only [ek] at q2; exact q2.elim
                | some m =>
                  simp only [ek] at q2
                  obtain ⟨a2, u2, r1, r2, r3, r4, r5⟩ := s2.own i sl2 _ e2 m2
                  rw [h1] at r1
                  cases r1
                  cases rk
                  cases r5 with
                  | l rr =>
                    refine ⟨a, _, j, m, rfl, rfl, r2, by rw [rr.length]; exact ek, ?_⟩
                    obtain ⟨gw, sw⟩ := s2.write (o' := .l (es2.set m d)) e2 m2 h1 r2 r3 r4 (.l (rr.set (rv.mono g2.frz) m))
                    exact q2 σ F2 _ gw sw
              | _ => simp only [m2] at q2; exact q2.elim
/-! ### unpacking, returning, nothing -/
def sUnp (g : D → T → Option T) (fe : T → Rs D) : T → SR := fun τ => (fe τ).s fun d τ1 => match g d τ1 with
  | some τ2 => .nx τ2
  | none => .stuck
theorem js_unp {tg : Expr} {gs : List Nat} {g : D → T → Option T} {fe : T → Rs D} {spos : Pos} (hg : JG X tg gs g) (he : JE px W X e fe) (hs : swapsWithSole [tg] e spos.line X.env = pure false) (hw : swappedStores [tg] e X.env = pure none) (h1 : (assignEach [tg] X.env).map (·.2) = [assign tg X.env]) :
    JS px W X (.Assign [tg] e spos) (sUnp g fe) := by
  refine PS.imp (ps_asg he hg hs hw h1) fun D σ H ⟨M, F, τ, s, p⟩ => ?_
  refine rdE_s s p fun d τ1 F1 H1 v g1 s1 rv q => ?_
  cases eg : g d τ1 with
  | none => simp only [eg] at q; exact q.elim
  | some τ2 =>
    simp only [eg] at q
    exact ⟨M, F1, τ1, d, τ2, s1, rv, eg, fun σ' _ s' => q σ' F1 H1 .refl s'⟩
def sRetV (i : Nat) : T → SR := fun τ => match τ[i]? with
  | some (.own o) => .rt (.o o) (τ.set i .no)
  | some (.val d) => .rt (.d d) τ
  | _ => .stuck
theorem js_retV {i : Nat} (h : PE X (.Name x xp) (tVar i)) : JS px W X (.Return (some (.Name x xp)) pos) (sRetV i) :=
  PS.imp (ps_ret h) fun D σ H ⟨M, F, τ, s, p⟩ => by
    unfold sRetV at p
    cases e : τ[i]? with
    | none => rw [e] at p; exact p.elim
    | some sl =>
      rw [e] at p
      cases sl with
      | no => exact p.elim
      | io o => exact p.elim
      | own o =>
        obtain ⟨a, hv, ow⟩ := s.own_at e rfl
        exact ⟨_, hv, p _ σ F H .refl (s.drop i) ow⟩
      | val d =>
        obtain ⟨v, hv, r⟩ := s.val i d e
        exact ⟨_, hv, p v σ F H .refl s r⟩
theorem js_stuck {st : Stmt} : JS px W X st (fun _ => .stuck) := ⟨fun pins s σ H D I ⟨M, F, τ, sr, p⟩ => p.elim⟩
end
end U
end

section
set_option Elab.async false
set_option linter.all false
set_option maxRecDepth 100000
namespace U
open PySem PySem.Spec PyProof.Rows L2

/-! ### a, b = x, y: owned objects stay owned -/
inductive PRL (K : PySem.W.Frag) (F H : Hp) (σ : St) (τ : T) : MS → List V → List PR → Prop
  | nil {M : MS} : PRL K F H σ τ M [] []
  | d {M : MS} {v : V} {vs : List V} {z : D} {rs : List PR} : Rep K F v z → PRL K F H σ τ M vs rs → PRL K F H σ τ M (v :: vs) (.d z :: rs)
  | o {M : MS} {a : Addr} {vs : List V} {z : OV} {rs : List PR} : OwnR K M F H σ τ (.ref a) z → PRL K F H σ τ (M.but a) vs rs → PRL K F H σ τ M (.ref a :: vs) (.o z :: rs)
def JAX (px : PX) (W : WX) (X : Cx) (es : List Expr) (f : T → Rs (List PR)) : Prop := PA X es (fun σ H Q => ∃ M F τ, SRel X.K M F H σ τ ∧ Post X.K px W M F H σ (f τ) fun rs τ' F' H' => ∀ vs, PRL X.K F' H' σ τ' M vs rs → Q vs H')
def sXNil : T → Rs (List PR) := fun τ => .ok [] τ
def sXCons (f : T → Rs PR) (g : T → Rs (List PR)) : T → Rs (List PR) := fun τ => (f τ).bind fun r τ1 => (g τ1).bind fun rs τ2 => .ok (r :: rs) τ2
section
variable {px : PX} {W : WX} {X : Cx} {e : Expr} {es : List Expr}
theorem jax_nil : JAX px W X [] sXNil := PA.imp pa_nil fun σ H Q ⟨M, F, τ, s, p⟩ => p F H .refl s _ .nil
theorem OwnR.later {K : PySem.W.Frag} {M : MS} {F H F1 H1 : Hp} {σ : St} {τ τ1 : T} {a : Addr} {o : OV} (h : OwnR K M F H σ τ (.ref a) o) (g : Grow (M.but a) F H F1 H1) (s : SRel K (M.but a) F1 H1 σ τ1) : OwnR K M F1 H1 σ τ1 (.ref a) o := by
  obtain ⟨b, u, e, h2, h3, h4, h5, h6⟩ := h
  cases e
  have na : ¬ (M.but a).m a := fun z => z.2 rfl
  refine ⟨a, u, rfl, g.keep a u h2 na, g.free a h3 (by rw [h2]; exact fun z => nomatch z) na, h4, h5.mono g.frz, fun i sl e m z => ?_⟩
  obtain ⟨o', e1⟩ := Option.ne_none_iff_exists'.mp m
  obtain ⟨b, w, p1, p2, p3, p4, p5⟩ := s.own i sl o' e e1
  rw [p1] at z
  cases z
  exact na p4
theorem jax_cons {f : T → Rs PR} {g : T → Rs (List PR)} (ha : JX px W X e f) (hr : JAX px W X es g) (hs : starEach (e :: es) X.env = (false, eval e X.env) :: starEach es X.env) : JAX px W X (e :: es) (sXCons f g) :=
  PA.imp (pa_cons ha hr hs) fun σ H Q ⟨M, F, τ, s, p⟩ => rdX_bind s p fun r τ1 F1 H1 v g1 s1 rv p1 => by
    cases r with
    | d z =>
      refine ⟨M, F1, τ1, s1, p1.bind.imp fun rs τ2 F2 H2 g2 s2 p2 vs rvs => p2 F2 H2 .refl s2 _ (.d (Rep.mono g2.frz rv) rvs)⟩
    | o z =>
      obtain ⟨a, u, ev, h2, h3, h4, h5, h6⟩ := id rv
      subst ev
      refine ⟨M.but a, F1, τ1, s1.but h2 h6, Post.less (M := M) (fun b h => h.1) (fun τ' F' H' g s => s.unbut) p1.bind fun rs τ2 F2 H2 gM gN s2 p2 vs rvs => ?_⟩
      exact p2 F2 H2 .refl s2.unbut _ (.o (OwnR.later rv gN s2) rvs)
def putAll : List Nat → List PR → T → Option T
  | [], [], τ => some τ
  | i :: is, r :: rs, τ => match putAll is rs τ with
    | some τ' => if notIo τ' i then some (τ'.set i r.slot) else none
    | none => none
  | _, _, _ => none
def sPar (is : List Nat) (fa : T → Rs (List PR)) : T → SR := fun τ => (fa τ).s fun rs τ1 => match putAll is rs τ1 with
  | some τ2 => .nx τ2
  | none => .stuck
def setAll : List Nat → List V → St → St
  | i :: is, v :: vs, σ => (setAll is vs σ).set i (some v)
  | _, _, σ => σ
theorem OwnR.setv {K : PySem.W.Frag} {M : MS} {F H : Hp} {σ : St} {τ : T} {v : V} {o : OV} {i : Nat} {w : V} {sl : Sl} (h : OwnR K M F H σ τ v o) (hne : sl.mut ≠ none → w ≠ v) : OwnR K M F H (σ.set i (some w)) (τ.set i sl) v o := by
  obtain ⟨a, u, e, h2, h3, h4, h5, h6⟩ := h
  subst e
  refine ⟨a, u, rfl, h2, h3, h4, h5, fun j s e m z => ?_⟩
  rcases get_set e with ⟨rfl, q, hl⟩ | ⟨q, e⟩
  · subst q
    by_cases hs : j < σ.length
    · rw [List.getElem?_set_self hs] at z
      have := Option.some.inj (Option.some.inj z)
      exact hne m this
    · rw [List.getElem?_eq_none (by rw [List.length_set]; omega)] at z; cases z
  · rw [List.getElem?_set_ne (Ne.symm q)] at z
    exact h6 j s e m z
theorem SRel.mono {K : PySem.W.Frag} {M : MS} {F H : Hp} {σ : St} {τ : T} {a : Addr} (s : SRel K (M.but a) F H σ τ) : SRel K M F H σ τ := s.unbut
/-- all stored: slots that hold owned objects hold those of the list, or those of before -/
theorem put_all {K : PySem.W.Frag} {F H : Hp} {σ : St} {τ : T} : ∀ {is : List Nat} {rs : List PR} {M : MS} {vs : List V} {τ2 : T}, SRel K M F H σ τ → PRL K F H σ τ M vs rs → putAll is rs τ = some τ2 → SRel K M F H (setAll is vs σ) τ2 ∧
    (∀ v o, OwnR K M F H σ τ v o → (∀ w z, (w, PR.o z) ∈ vs.zip rs → w ≠ v) → OwnR K M F H (setAll is vs σ) τ2 v o)
  | [], [], M, _, τ2, s, .nil, h => by cases h; exact ⟨s, fun v o ow _ => ow⟩
  | [], _ :: _, M, _, τ2, s, r, h => by cases h
  | _ :: _, [], M, _, τ2, s, r, h => by cases h
  | i :: is, _, M, _, τ2, s, .d (rs := rs) (v := v) (vs := vs) (z := z) rv rr, h => by
    unfold putAll at h
    cases e : putAll is rs τ with
    | none => rw [e] at h; cases h
    | some τ' =>
      simp only [e] at h
      obtain ⟨s1, k1⟩ := put_all s rr e
      by_cases c : notIo τ' i = true
      · rw [if_pos c] at h
        cases h
        refine ⟨s1.setv c rv, fun w o ow hne => ?_⟩
        exact (k1 w o ow fun w' z' hm => hne w' z' (List.mem_cons_of_mem _ hm)).setv (fun m => absurd rfl m)
      · rw [if_neg c] at h; cases h
  | i :: is, _, M, _, τ2, s, .o (rs := rs) (a := a) (vs := vs) (z := z) rv rr, h => by
    unfold putAll at h
    cases e : putAll is rs τ with
    | none => rw [e] at h; cases h
    | some τ' =>
      simp only [e] at h
      obtain ⟨b, u, ev, h2, h3, h4, h5, h6⟩ := id rv
      cases ev
      obtain ⟨s1, k1⟩ := put_all (s.but h2 h6) rr e
      have own1 : OwnR K M F H (setAll is vs σ) τ' (.ref a) z := by
        refine ⟨a, u, rfl, h2, h3, h4, h5, fun j sl ej m zz => ?_⟩
        obtain ⟨o', e1⟩ := Option.ne_none_iff_exists'.mp m
        obtain ⟨b', w, p1, p2, p3, p4, p5⟩ := s1.own j sl o' ej e1
        rw [p1] at zz
        cases zz
        exact p4.2 rfl
      by_cases c : notIo τ' i = true
      · rw [if_pos c] at h
        cases h
        refine ⟨s1.unbut.seto c own1, fun w o ow hne => ?_⟩
        obtain ⟨b', u', ew, q2, q3, q4, q5, q6⟩ := id ow
        subst ew
        have hab : V.ref a ≠ V.ref b' := hne (.ref a) z (List.mem_cons_self ..)
        have ow' : OwnR K (M.but a) F H σ τ (.ref b') o := ⟨b', u', rfl, q2, q3, ⟨q4, fun z => hab (by rw [z])⟩, q5, q6⟩
        have := k1 (.ref b') o ow' fun w' z' hm => hne w' z' (List.mem_cons_of_mem _ hm)
        obtain ⟨b2, u2, e2, r2, r3, r4, r5, r6⟩ := this
        cases e2
        exact OwnR.setv (⟨b', u2, rfl, r2, r3, r4.1, r5, r6⟩ : OwnR K M F H (setAll is vs σ) τ' (.ref b') o) (fun _ => hab)
      · rw [if_neg c] at h; cases h
/-! the statement -/
def tParN (is : List Nat) (ta : TA) : TS := fun D σ H => ta σ H fun vs H1 => vs.length = is.length ∧ D.nx (setAll is vs σ) H1
theorem store_all {pins : List (Addr × Obj)} {H : Hp} {E : Value → Shared → Prop} (hN : X.N.Nodup) : ∀ {rs : List (Nat × Str × V)} {us : List Value} {σ : St} {s : Shared} {R : Unit → Shared → Prop}, (∀ q ∈ rs, X.N[q.1]? = some q.2.1 ∧ X.env.scope.names.lookup q.2.1 = some .local) → Vals (rs.map (·.2.2)) us → Inv X pins σ H s →
    (∀ s', Inv X pins (rs.foldl (fun t q => t.set q.1 (some q.2.2)) σ) H s' → R () s') → wpAny (model X.prog X.w) X.A (assignInOrder (rs.map fun q => fun v => bindName X.env q.2.1 v) us) R E s
  | [], _, σ, s, R, _, .nil, I, h => assignInOrder_nil (h s I)
  | q :: rs, _, σ, s, R, hq, .cons r rr, I, h => by
    obtain ⟨h1, h2⟩ := hq q (List.mem_cons_self ..)
    refine assignInOrder_cons (wpAny_bindName (store_ok I hN h1 (.inl h2) r (fun s2 I2 => ?_) (.inr h2)))
    exact store_all (E := E) (R := R) hN (fun p hp => hq p (List.mem_cons_of_mem _ hp)) rr I2 h
/-- the places, the names, the values -/
def trip : List Nat → List Str → List V → List (Nat × Str × V)
  | i :: is, x :: xs, v :: vs => (i, x, v) :: trip is xs vs
  | _, _, _ => []
theorem trip_mem : ∀ {is : List Nat} {xs : List Str} {vs : List V} {q : Nat × Str × V}, q ∈ trip is xs vs → (q.1, q.2.1) ∈ is.zip xs
  | i :: is, x :: xs, v :: vs, q, h => by
    rcases List.mem_cons.mp (show q ∈ (i, x, v) :: trip is xs vs from h) with e | e
    · rw [e]; exact List.mem_cons_self ..
    · exact List.mem_cons_of_mem _ (trip_mem e)
  | [], _, _, q, h => by simp [trip] at h
  | _ :: _, [], _, q, h => by simp [trip] at h
  | _ :: _, _ :: _, [], q, h => by simp [trip] at h
theorem trip_names : ∀ {is : List Nat} {xs : List Str} {vs : List V}, is.length = xs.length → vs.length = is.length → (trip is xs vs).map (·.2.1) = xs ∧ (trip is xs vs).map (·.2.2) = vs
  | [], [], [], _, _ => ⟨rfl, rfl⟩
  | i :: is, x :: xs, v :: vs, h1, h2 => by
    obtain ⟨a, b⟩ := trip_names (is := is) (xs := xs) (vs := vs) (by simpa using h1) (by simpa using h2)
    exact ⟨by simp [trip, a], by simp [trip, b]⟩
  | [], _ :: _, _, h1, _ => by simp at h1
  | _ :: _, [], _, h1, _ => by simp at h1
  | [], [], _ :: _, _, h2 => by simp at h2
  | _ :: _, _ :: _, [], _, h2 => by simp at h2
theorem trip_set : ∀ {is : List Nat} {xs : List Str} {vs : List V} {σ : St}, is.length = xs.length → vs.length = is.length → (trip is xs vs).foldr (fun q t => t.set q.1 (some q.2.2)) σ = setAll is vs σ
  | [], [], [], σ, _, _ => rfl
  | i :: is, x :: xs, v :: vs, σ, h1, h2 => by
    have := trip_set (is := is) (xs := xs) (vs := vs) (σ := σ) (by simpa using h1) (by simpa using h2)
    show (List.foldr _ σ (trip is xs vs)).set i (some v) = _
    rw [this]; rfl
  | [], _ :: _, _, _, h1, _ => by simp at h1
  | _ :: _, [], _, _, h1, _ => by simp at h1
  | [], [], _ :: _, _, _, h2 => by simp at h2
  | _ :: _, _ :: _, [], _, _, h2 => by simp at h2
theorem ps_parN {is : List Nat} {xs : List Str} {ts vs0 : List Expr} {ta : TA} {pt : Pos} {kt k2 : Nat} {pt2 pos : Pos} (hc : X.calm = true) (hN : X.N.Nodup) (hl : is.length = xs.length) (hi : ∀ q ∈ is.zip xs, X.N[q.1]? = some q.2 ∧ X.env.scope.names.lookup q.2 = some .local)
    (hsm : is.length ≤ 100) (ha : PA X vs0 ta) (hw : swappedStores [.Tuple ts kt pt] (.Tuple vs0 k2 pt2) X.env = pure (some xs)) (hs : swapsWithSole [.Tuple ts kt pt] (.Tuple vs0 k2 pt2) pos.line X.env = pure false) :
    PS X (.Assign [.Tuple ts kt pt] (.Tuple vs0 k2 pt2) pos) (tParN is ta) := by
  refine ⟨fun pins s σ H D I h => ?_⟩
  rw [exec_Assign_arm]
  refine wpAny_bind (wpAny_standAt ?_)
  rw [hs]
  refine wpAny_bind (wpAny_pure ?_)
  rw [if_neg (by decide)]
  refine wpAny_bind (Tuple_ (thn (ha.run _ pins s σ H _ I h) fun us s1 ⟨vs, H1, I1, r1, hv, q1⟩ => ?_))
  have hul : us.length = is.length := by rw [← r1.length]; exact hv
  refine wpAny_newObj_type ?_ (by show us.toArray.size ≤ sizeLine; rw [List.size_toArray, hul]; exact Nat.le_trans hsm (by decide))
  have I2 : Inv X pins σ H1 { s1 with heap := s1.heap.push { cls := .type "tuple", data := .seq us.toArray } } := I1.kept (t' := s1.toks) fun b o e => Heap.get?_push_of_some _ e
  rw [hw]
  refine wpAny_bind (wpAny_pure ?_)
  show wpAny (model X.prog X.w) X.A (do rule "assign.swapped-stores"; let items ← unpackItems (.ref s1.heap.objs.size) xs.length none; assignInOrder (xs.reverse.map fun n => fun v => bindName X.env n v) items.reverse; pure Flow.next) _ _ _
  have hxl : xs.length = us.toArray.size := by rw [List.size_toArray, hul, hl]
  rw [hxl]
  refine wpAny_bind (wpAny_rule (wpAny_bind (unpackItems_tuple (items := us.toArray) (I.ok.hd hc) (IsTup.new s1.heap _) fun h' hx' => ?_)))
  have I3 := I2.kept (h' := h') (t' := s1.toks) fun b o e => hx' b o (Nat.ne_of_lt (Heap.lt_size e)) e
  obtain ⟨n1, n2⟩ := trip_names hl hv
  have e1 : (xs.reverse.map fun n => fun v => bindName X.env n v) = ((trip is xs vs).reverse.map fun q => fun v => bindName X.env q.2.1 v) := by
    have e0 : xs.reverse = (trip is xs vs).reverse.map (·.2.1) := by rw [List.map_reverse, n1]
    rw [e0, List.map_map]; rfl
  refine wpAny_bind ?_
  rw [e1]
  refine store_all (σ := σ) hN (fun q hq => hi _ (trip_mem (List.mem_reverse.mp hq))) ?_ I3 fun s3 I4 => wpAny_pure ?_
  · rw [List.map_reverse, n2]
    exact Vals.reverse (by simpa using r1)
  · rw [List.foldl_reverse, trip_set hl hv] at I4
    exact ⟨_, H1, I4, q1⟩
def parC (N : List Str) (sc : Scope) (is : List Nat) (xs : List Str) : Bool := (is.zip xs).all fun q => decide (N[q.1]? = some q.2) && decide (sc.names.lookup q.2 = some .local)
theorem js_par {is : List Nat} {xs : List Str} {ts vs0 : List Expr} {fa : T → Rs (List PR)} {pt : Pos} {kt k2 : Nat} {pt2 pos : Pos} (hc : X.calm = true) (hN : X.N.Nodup) (hl : is.length = xs.length) (hi : parC X.N X.env.scope is xs = true)
    (hsm : is.length ≤ 100) (ha : JAX px W X vs0 fa) (hw : swappedStores [.Tuple ts kt pt] (.Tuple vs0 k2 pt2) X.env = pure (some xs)) (hs : swapsWithSole [.Tuple ts kt pt] (.Tuple vs0 k2 pt2) pos.line X.env = pure false) :
    JS px W X (.Assign [.Tuple ts kt pt] (.Tuple vs0 k2 pt2) pos) (sPar is fa) := by
  refine PS.imp (ps_parN hc hN hl (fun q hq => by have := List.all_eq_true.mp hi q hq; simpa only [Bool.and_eq_true, decide_eq_true_eq] using this) hsm ha hw hs) fun D σ H ⟨M, F, τ, s, p⟩ => ⟨M, F, τ, s, p.bind.imp fun rs τ1 F1 H1 g1 s1 q vs rvs => ?_⟩
  cases e : putAll is rs τ1 with
  | none => simp only [e] at q; exact q.elim
  | some τ2 =>
    simp only [e] at q
    have len : ∀ {is : List Nat} {rs : List PR} {τ τ2 : T}, putAll is rs τ = some τ2 → rs.length = is.length := fun {is} => by
      induction is with
      | nil => intro rs τ τ2 h; cases rs with
        | nil => rfl
        | cons r rs => cases h
      | cons i is ih => intro rs τ τ2 h; cases rs with
        | nil => cases h
        | cons r rs =>
          unfold putAll at h
          cases e : putAll is rs τ with
          | none => rw [e] at h; cases h
          | some τ' => simp [ih e]
    have lv : ∀ {M : MS} {vs : List V} {rs : List PR}, PRL X.K F1 H1 σ τ1 M vs rs → vs.length = rs.length := fun {M vs rs} h => by
      induction h with
      | nil => rfl
      | d _ _ ih => simp [ih]
      | o _ _ ih => simp [ih]
    refine ⟨by rw [lv rvs, len e], q _ F1 H1 .refl (put_all s1 rvs e).1⟩
end
end U
end

section
set_option Elab.async false
set_option linter.all false
set_option maxRecDepth 100000
namespace U
open PySem PySem.Spec PyProof.Rows L2

/-! ### what a law's text gives -/
structure Blt (mg : Str → Option Value) : Prop where
  len : mg "len" = none
  range : mg "range" = none
  zip : mg "zip" = none
  enumerate : mg "enumerate" = none
  isinstance : mg "isinstance" = none
  int : mg "int" = none
  abs : mg "abs" = none
  list : mg "list" = none
  tuple : mg "tuple" = none
  str : mg "str" = none
  bool : mg "bool" = none
  dict : mg "dict" = none
  set : mg "set" = none
  sorted : mg "sorted" = none
  sum : mg "sum" = none
  min : mg "min" = none
  max : mg "max" = none
  any : mg "any" = none
  all : mg "all" = none
/-- a def as it stands behind the top -/
structure DefOk (K : PySem.W.Frag) (mg : Str → Option Value) (x : Str) (st : Stmt) (ps : List Str) : Prop where
  ex : ∃ f fd, FunD K x x (defArgs st) (defBody st) (defScope st) [] [] f fd ∧ mg x = some (.ref f) ∧ Binds K fd ps []
structure Callee (P : Program) (w : World) (K : PySem.W.Frag) (mg : Str → Option Value) (base : Heap) (px : PX) (x : Str) (a : Arguments) (ps : List Str) (k : Nat) (den : List Sl → DR) : Prop where
  ex : ∃ f fd, FnOk P w K mg base (L2.CX P w) k f fd ps (spOf K px ps.length den) ∧ mg x = some (.ref f) ∧ PySem.W.keepIn K (.ref f) = true ∧ Binds K fd ps [] ∧ ∃ body sc, FunD K x x a body sc [] [] f fd
section
variable {P : Program} {w : World} {K : PySem.W.Frag} {mg : Str → Option Value} {base : Heap} {px : PX} {x : Str}
theorem Callee.mono {a : Arguments} {ps : List Str} {k k' : Nat} {den : List Sl → DR} (c : Callee P w K mg base px x a ps k den) (h : k ≤ k') : Callee P w K mg base px x a ps k' den := by
  obtain ⟨f, fd, F, r⟩ := c.ex
  exact ⟨f, fd, F.mono h, r⟩
/-- a def's body, read -/
theorem callee {st : Stmt} {N ps : List Str} {k m : Nat} {g : T → SR} (D : DefOk K mg x st ps) (S : FnScope N ps (defScope st)) (hn : N.length = ps.length + m)
    (hb : ∀ (f : Addr) (cdv : Value) (A : Around) (outer : List Env) (s : Shared) (H : Hp) (E : XK), Room k (A.deeper (envOfC x (defScope st) s.heap.objs.size f cdv)) →
      Takes (cxOf (L2.CX P w) P w K mg base N x (defScope st) f cdv A outer s H E) (fun cls d _ H => E cls d H) →
      PassesOwn (model P w) (cxOf (L2.CX P w) P w K mg base N x (defScope st) f cdv A outer s H E).A (cxOf (L2.CX P w) P w K mg base N x (defScope st) f cdv A outer s H E).env (cxOf (L2.CX P w) P w K mg base N x (defScope st) f cdv A outer s H E).xe →
      JSs px (fun cls d _ H => E cls d H) (cxOf (L2.CX P w) P w K mg base N x (defScope st) f cdv A outer s H E) (defBody st) g) :
    Callee P w K mg base px x (defArgs st) ps (k + 1) (run m g) := by
  obtain ⟨f, fd, F, hm, hb'⟩ := D.ex
  exact ⟨f, fd, fn_run F S hn (hb f), hm, F.kp, hb', _, _, F⟩
/-- a def that is not run -/
theorem callee0 {st : Stmt} {ps : List Str} {k : Nat} (D : DefOk K mg x st ps) : Callee P w K mg base px x (defArgs st) ps k (fun _ => .stuck) := by
  obtain ⟨f, fd, F, hm, hb'⟩ := D.ex
  exact ⟨f, fd, ⟨fun vs H Q E ⟨_, _, _, h, _⟩ => h, fun A outer s H args us vs Q E _ _ _ _ ⟨_, _, _, _, _, _, p⟩ => p.elim⟩, hm, F.kp, hb', _, _, F⟩
end
section
variable {px : PX} {W : WX} {X : Cx} {k : Nat} {x : Str} {p pos : Pos} {e : Expr} {es : List Expr}
theorem jx_own {den : List Sl → DR} {fa : T → Rs (List BR)} {a : Arguments} {ps : List Str} (C : Callee X.prog X.w X.K X.mg X.base px x a ps k den) (hr : Room k X.A) (tk : Takes X W) (hg : Gl X x) (ha : JAB px W X (e :: es) fa) (hn : ∀ τ bs τ1, fa τ = .ok bs τ1 → bs.length = ps.length) (hdb : (x == ("__debug__" : Str)) = false)
    (he : starEach (e :: es) X.env = (false, eval e X.env) :: starEach es X.env) (hpl : (backTo pos (starEach es X.env)).any (·.1) = false) : JX px W X (.Call (.Name x p) (e :: es) [] pos) (sCall den fa) := by
  obtain ⟨f, fd, F, hm, hk, hb, _⟩ := C.ex
  exact jx_call F hr hg hm hk hb tk ha hn hdb he hpl
theorem jx_own0 {den : List Sl → DR} {a : Arguments} (C : Callee X.prog X.w X.K X.mg X.base px x a [] k den) (hr : Room k X.A) (tk : Takes X W) (hg : Gl X x) (hdb : (x == ("__debug__" : Str)) = false) : JX px W X (.Call (.Name x p) [] [] pos) (sCall den sBNil) := by
  obtain ⟨f, fd, F, hm, hk, hb, _⟩ := C.ex
  exact jx_call0 F hr hg hm hk hb tk hdb
theorem jx_strE {m : Str} {z : List Nat} {j : Nat} (h : m = stO z) : JX px W X (.Constant (.str m) j pos) (sC (.str z)) := by
  subst h; exact jx_str
/-- the number of arguments -/
theorem bl0 : ∀ τ bs τ1, sBNil τ = .ok bs τ1 → bs.length = 0 := fun τ bs τ1 h => by cases h; rfl
theorem blS {f : T → Rs BR} {g : T → Rs (List BR)} {n : Nat} (h : ∀ τ bs τ1, g τ = .ok bs τ1 → bs.length = n) : ∀ τ bs τ1, sBCons f g τ = .ok bs τ1 → bs.length = n + 1 := fun τ bs τ1 e => by
  unfold sBCons at e
  cases ef : f τ with
  | stuck => rw [ef] at e; cases e
  | exc x t => rw [ef] at e; cases e
  | ok b t =>
    rw [ef] at e
    have e : (g t).bind (fun ds τ2 => .ok (b :: ds) τ2) = .ok bs τ1 := e
    cases eg : g t with
    | stuck => rw [eg] at e; cases e
    | exc x t' => rw [eg] at e; cases e
    | ok bs' t' =>
      rw [eg] at e
      cases e
      rw [List.length_cons, h _ _ _ eg]
/-- one argument, made for the call: the callee may own it -/
def sCallF (den : List Sl → DR) (f : T → Rs PR) : T → Rs PR := fun τ => (f τ).bind fun r τ1 => match den [r.slot] with
  | .ok z _ => .ok z τ1
  | .exc y _ => .exc y τ1
  | .stuck => .stuck
theorem SRel.over {K : PySem.W.Frag} {M N : MS} {F H F' H' : Hp} {σ : St} {τ : T} (s : SRel K M F H σ τ) (g : Grow N F H F' H') (hs : Sub F' H') (hN : ∀ (i : Nat) (sl : Sl) (a : Addr), τ[i]? = some sl → sl.mut ≠ none → σ[i]? = some (some (V.ref a)) → ¬ N.m a) : SRel K M F' H' σ τ := by
  refine ⟨s.len, fun a e => s.up a (g.there a e), hs, fun i d e => ?_, fun i sl o e m => ?_, s.apart, s.io⟩
  · obtain ⟨v, h1, h2⟩ := s.val i d e
    exact ⟨v, h1, h2.mono g.frz⟩
  · obtain ⟨a, u, p1, p2, p3, p4, p5⟩ := s.own i sl o e m
    have out := hN i sl a e (by rw [m]; exact fun z => nomatch z) p1
    exact ⟨a, u, p1, g.keep a u p2 out, g.free a p3 (by rw [p2]; exact fun z => nomatch z) out, p4, p5.mono g.frz⟩
theorem rd_callF {K : PySem.W.Frag} {den : List Sl → DR} {f : T → Rs PR} {σ : St} {H : Hp} {Q : VK} (h : rdX K px W (sCallF den f) σ H Q) : rdX K px W f σ H (fun v H1 => spOf K px 1 den [v] H1 Q (WE W σ)) := by
  obtain ⟨M, F, τ, s, p⟩ := h
  refine rdX_bind s p fun r τ1 F1 H1 v g1 s1 rv p1 => ?_
  let N : MS := ⟨fun a => H1 a = none ∨ (v = .ref a ∧ ∃ z, r = .o z), fun _ => 0⟩
  have one : ∀ {i : Nat} {sl : Sl}, [r.slot][i]? = some sl → i = 0 ∧ sl = r.slot := fun {i sl} e => by
    cases i with
    | zero => exact ⟨rfl, by simpa using e.symm⟩
    | succ i => simp at e
  have hN : ∀ (i : Nat) (sl : Sl) (a : Addr), τ1[i]? = some sl → sl.mut ≠ none → σ[i]? = some (some (V.ref a)) → ¬ N.m a := fun i sl a e m hv hm => by
    obtain ⟨o, eo⟩ := Option.ne_none_iff_exists'.mp m
    obtain ⟨b, u, p1, p2, _⟩ := s1.own i sl o e eo
    rw [hv] at p1
    cases p1
    rcases hm with hm | ⟨hm, z, hr⟩
    · rw [p2] at hm; cases hm
    · subst hr
      obtain ⟨b, u', ev, _, _, _, _, h6⟩ := rv
      rw [hm] at ev
      cases ev
      exact h6 i sl e m hv
  have sub : ∀ a, N.m a → M.m a := fun a h => by
    rcases h with h | ⟨h, z, hr⟩
    · exact s1.up a h
    · subst hr
      obtain ⟨b, u', ev, _, _, h4, _⟩ := rv
      rw [h] at ev
      cases ev
      exact h4
  refine ⟨N, F1, [r.slot], rfl, rfl, ⟨Nat.le_refl _, fun a h => .inl h, s1.sub, fun i d e => ?_, fun i sl o e m => ?_, fun i j sl tl b e1 _ e2 _ _ _ => ?_, fun i o e => ?_⟩, ?_⟩
  · obtain ⟨rfl, q⟩ := one e
    cases r with
    | d z => cases q; exact ⟨v, rfl, rv⟩
    | o z => cases q
  · obtain ⟨rfl, q⟩ := one e
    subst q
    cases r with
    | d z => cases m
    | o z =>
      cases m
      obtain ⟨b, u', ev, h2, h3, h4, h5, _⟩ := rv
      subst ev
      exact ⟨b, u', rfl, h2, h3, .inr ⟨rfl, _, rfl⟩, h5⟩
  · rw [(one e1).1, (one e2).1]
  · obtain ⟨_, q⟩ := one e
    cases r <;> cases q
  · have gm : ∀ {F' H' : Hp}, Grow N F1 H1 F' H' → Grow M F1 H1 F' H' := fun g => g.mono sub
    cases ed : den [r.slot] with
    | stuck => simp only [ed] at p1; exact p1.elim
    | exc y fs =>
      simp only [ed] at p1
      exact fun F' H' g' s' dd xd => p1 F' H' (gm g') (s1.over g' s'.sub hN) dd xd
    | ok z fs =>
      simp only [ed] at p1
      cases z with
      | d z => exact fun w F' H' g' s' rw' => p1 F' H' (gm g') (s1.over g' s'.sub hN) w rw'
      | o z =>
        intro w F' H' g' s' rw'
        refine p1 F' H' (gm g') (s1.over g' s'.sub hN) w ?_
        obtain ⟨a, u, e, h2, h3, h4, h5, h6⟩ := rw'
        subst e
        exact ⟨a, u, rfl, h2, h3, sub a h4, h5, fun i sl e m hv => hN i sl a e m hv h4⟩
theorem jx_ownF {den : List Sl → DR} {f : T → Rs PR} {a : Arguments} {y : Str} (C : Callee X.prog X.w X.K X.mg X.base px x a [y] k den) (hr : Room k X.A) (tk : Takes X W) (hg : Gl X x) (ha : JX px W X e f) (hdb : (x == ("__debug__" : Str)) = false)
    (he : starEach [e] X.env = (false, eval e X.env) :: starEach [] X.env) : JX px W X (.Call (.Name x p) [e] [] pos) (sCallF den f) := by
  obtain ⟨g, fd, F, hm, hk, hb, _⟩ := C.ex
  exact PE.imp (pe_callS F hr hg hm hk hb (fun σ => passAt tk σ) (pa_cons ha pa_nil he) hdb he rfl) fun σ H Q h => rd_callF h
end
end U
end

section
set_option Elab.async false
set_option linter.all false
set_option maxRecDepth 100000
namespace U
open PySem PySem.Spec PyProof.Rows L2
/-! ### a law's end -/
def px0 : PX := ⟨fun _ => 0, fun _ => []⟩
theorem law_sp {K : PySem.W.Frag} {px : PX} {den : List Sl → DR} {H : Hp} {a : Addr} {ns : List Int} {E : XK} (hS : SqL K H a (ns.map V.int)) (h : ∃ fs, den [.val (.scr ns)] = .ok (.d (.bl true)) fs) : spOf K px 1 den [.ref a] H (fun v _ => v = .bl true) E := by
  obtain ⟨fs, h⟩ := h
  refine ⟨⟨fun _ => True, fun _ => 0⟩, H, [.val (.scr ns)], rfl, rfl, ⟨Nat.le_refl _, fun _ _ => trivial, Sub.refl _, fun i d e => ?_, fun i sl o e m => ?_, fun i j sl tl b e1 m1 _ _ _ _ => ?_, fun i o e => ?_⟩, ?_⟩
  · cases i with
    | zero => cases e; exact ⟨_, rfl, .scr hS⟩
    | succ i => simp at e
  · cases i with
    | zero => cases e; cases m
    | succ i => simp at e
  · cases i with
    | zero => cases e1; exact absurd rfl m1
    | succ i => simp at e1
  · cases i with
    | zero => cases e
    | succ i => simp at e
  · rw [h]
    intro v F' H' _ _ r
    cases r
    rfl
theorem walk_U {l : PySem.W.OpenLaw} {n k : Nat} {q : Program} {loose : List Str} {XP : (Str → Option Value) → Heap → Prop} {YP : World → Heap → Prop} {d : DefRec} {x : Str} {px : PX} {den : List Sl → DR} (hn : l.most = some n) (hn2 : n ≤ sizeLine) (hdf : d.params.defaults = []) (hr : Room k callerA)
    (F : ∀ (w : World) (mg : Str → Option Value) (fa : Addr) (h : Heap), YP w h → h.Ns mainGlobals mg → mg d.name = some (.ref fa) → ∃ (K : PySem.W.Frag) (fd : FuncData), K.In h ∧ (∀ (s : Shared) (u : Value), BindsTo s fd ⟨[u], []⟩ [(x, u)]) ∧
      ∀ base : Heap, K.In base → base.Ns mainGlobals mg → FnOk l.prog w K mg base (L2.CX l.prog w) k fa fd [x] (spOf K px 1 den))
    (hden : ∀ ns : List Int, ns.length ≤ n → ∃ fs, den [.val (.scr ns)] = .ok (.d (.bl true)) fs) :
    PySem.W.WalkO q loose XP YP l.row.toRowW d [] (fun f vs => PySem.call f vs) := by
  refine Att.attach_call hn hdf fun w s0 s1 mg mb fa o pm cd doc a vs ns G Y ho hd hcd hmg hobj hints hlen hg => ?_
  obtain ⟨K, fd, KX, hb, hF⟩ := F w mg fa _ Y G.T.g hmg
  exact law_call (CX := L2.CX l.prog w) KX G.T.g G.T.b G.T.builtins G.T.nolimit hg hobj hints (Nat.le_trans hlen hn2) hr hF hb (fun H _ hS => law_sp hS (hden ns hlen)) fun H e s' z => by
    obtain ⟨_, _, _, _, _, _, _, _, _, _, _, _, z⟩ := z
    exact z
end U
end

section
set_option Elab.async false
set_option linter.all false
set_option maxRecDepth 100000
namespace U
open PySem PySem.Spec PyProof.Rows L2
/-! ### how the readings compute -/
def Sl.free : Sl → Bool
  | .io _ => false
  | _ => true
theorem evl :
    (∀ (α β : Type) (a : α) (t : T) (k : α → T → Rs β), (Rs.ok a t).bind k = k a t) ∧
    (∀ (α : Type) (a : α) (t : T) (k : α → T → SR), (Rs.ok a t).s k = k a t) ∧
    (∀ t g, (SR.nx t).then g = g t) ∧ (∀ r t g, (SR.rt r t).then g = .rt r t) ∧
    (∀ f g τ, sSeq f g τ = (f τ).then g) ∧ (∀ τ, sNext τ = .nx τ) ∧
    (∀ d τ, sC d τ = .ok (.d d) τ) ∧
    (∀ i τ, sVar i τ = match τ[i]? with
      | some (.val d) => .ok (.d d) τ
      | some (.own o) => .ok (.d o.toD) (τ.set i (.val o.toD))
      | _ => .stuck) ∧
    (∀ i τ, sRd i τ = match τ[i]? with
      | some (.val d) => .ok (.d d) τ
      | some (.own _) => .ok (.sl i) τ
      | some (.io _) => .ok (.sl i) τ
      | _ => .stuck) ∧
    (∀ f τ, toB f τ = (f τ).bind fun z τ' => .ok (.d z) τ') ∧
    (∀ f τ, frz f τ = (f τ).bind fun r τ' => .ok r.toD τ') ∧ (∀ d, (PR.d d).toD = d) ∧ (∀ d, (PR.o d).toD = d.toD) ∧ (∀ d, (OV.l d).toD = .lst d) ∧
    (∀ z τ, (BR.d z).at τ = some z) ∧ (∀ i τ, (BR.sl i).at τ = match τ[i]? with
      | some s => s.seen
      | none => none) ∧
    (∀ d, (Sl.val d).seen = some d) ∧ (∀ d, (Sl.own d).seen = some d.toD) ∧ (∀ d, (Sl.io d).seen = some d.toD) ∧ (∀ d, (Sl.own d).mut = some d) ∧ (∀ d, (Sl.io d).mut = some d) ∧ (∀ o o', (Sl.io o).put o' = .io o') ∧ (∀ o o', (Sl.own o).put o' = .own o') ∧
    (∀ g fa fb τ, sOp2 g fa fb τ = (fa τ).bind fun x τ1 => (fb τ1).bind fun y τ2 => ap2 g x y τ2) ∧
    (∀ g x y τ, ap2 g x y τ = match x.at τ, y.at τ with
      | some d, some e => (match g d e with | some r => .ok r τ | none => .stuck)
      | _, _ => .stuck) ∧
    (∀ f τ, sTB f τ = (f τ).bind fun r τ1 => match r with
      | .d (.bl b) => .ok b τ1
      | _ => .stuck) ∧
    (∀ f τ, sTru f τ = (f τ).bind fun x τ1 => match x.at τ1 with
      | some d => (match d.truth with | some b => .ok b τ1 | none => .stuck)
      | none => .stuck) := by
  repeat' apply And.intro
  all_goals (intros; rfl)
theorem evl2 :
    (∀ ta tb τ, sAnd ta tb τ = (ta τ).bind fun c τ1 => if c then tb τ1 else .ok false τ1) ∧
    (∀ ta tb τ, sOr ta tb τ = (ta τ).bind fun c τ1 => if c then .ok true τ1 else tb τ1) ∧
    (∀ ta τ, sNot ta τ = (ta τ).bind fun c τ1 => .ok (!c) τ1) ∧
    (∀ f g τ, sAndV f g τ = (f τ).bind fun r τ1 => match r.truth with
      | some true => g τ1
      | some false => .ok r τ1
      | none => .stuck) ∧
    (∀ f g τ, sOrV f g τ = (f τ).bind fun r τ1 => match r.truth with
      | some true => .ok r τ1
      | some false => g τ1
      | none => .stuck) ∧
    (∀ f τ, sNotV f τ = (f τ).bind fun r τ1 => match r.truth with
      | some k => .ok (.d (.bl (!k))) τ1
      | none => .stuck) ∧
    (∀ t f g τ, sIte t f g τ = (t τ).bind fun k τ1 => if k then f τ1 else g τ1) ∧
    (∀ f τ, sNeg f τ = (f τ).bind fun d τ1 => match d with
      | .int i => .ok (.d (.int (-i))) τ1
      | _ => .stuck) ∧
    (∀ τ, sNil τ = .ok [] τ) ∧ (∀ f g τ, sCons f g τ = (f τ).bind fun d τ1 => (g τ1).bind fun ds τ2 => .ok (d :: ds) τ2) ∧
    (∀ g τ, sTup g τ = (g τ).bind fun ds τ1 => if ds.length ≤ lim then .ok (.d (.tup ds)) τ1 else .stuck) ∧
    (∀ g τ, sLst g τ = (g τ).bind fun ds τ1 => if ds.length ≤ lim then .ok (.o (.l ds)) τ1 else .stuck) ∧
    (∀ τ, sNoP τ = .ok none τ) ∧ (∀ f τ, sSmP f τ = (f τ).bind fun d τ1 => match d with
      | .int i => .ok (some i) τ1
      | _ => .stuck) ∧
    (∀ f l u τ, sSl f l u τ = (f τ).bind fun x τ1 => (l τ1).bind fun lo τ2 => (u τ2).bind fun hi τ3 => match x.at τ3 with
      | some d => (match gSl lo hi d with | some r => .ok r τ3 | none => .stuck)
      | none => .stuck) ∧
    (∀ τ, sBNil τ = .ok [] τ) ∧ (∀ f g τ, sBCons f g τ = (f τ).bind fun d τ1 => (g τ1).bind fun ds τ2 => .ok (d :: ds) τ2) ∧
    (∀ g f τ, sCB g f τ = (f τ).bind fun bs τ1 => match atL bs τ1 with
      | some ds => (match g ds with | some r => .ok r τ1 | none => .stuck)
      | none => .stuck) ∧
    (∀ τ, atL [] τ = some []) ∧ (∀ b bs τ, atL (b :: bs) τ = match b.at τ, atL bs τ with
      | some d, some ds => some (d :: ds)
      | _, _ => none) ∧
    (∀ f τ, sDrop f τ = (f τ).s fun _ τ1 => .nx τ1) ∧ (∀ f τ, sRet f τ = (f τ).s fun r τ1 => .rt r τ1) ∧
    (∀ i τ, sRetV i τ = match τ[i]? with
      | some (.own o) => .rt (.o o) (τ.set i .no)
      | some (.val d) => .rt (.d d) τ
      | _ => .stuck) ∧
    (∀ t f g τ, sIfS t f g τ = (t τ).s fun b τ1 => if b then f τ1 else g τ1) ∧
    (∀ i f τ, sSet i f τ = (f τ).s fun r τ1 => putS i r τ1) ∧ (∀ i r τ, putS i r τ = if notIo τ i then .nx (τ.set i r.slot) else .stuck) ∧ (∀ z, (PR.d z).slot = .val z) ∧ (∀ z, (PR.o z).slot = .own z) ∧
    (∀ s τ, notIo (s :: τ) 0 = s.free) ∧ (∀ s τ i, notIo (s :: τ) (i + 1) = notIo τ i) ∧ (∀ d, (Sl.val d).free = true) ∧ (∀ d, (Sl.own d).free = true) ∧ (Sl.no.free = true) := by
  refine ⟨fun _ _ _ => rfl, fun _ _ _ => rfl, fun _ _ => rfl, fun _ _ _ => rfl, fun _ _ _ => rfl, fun _ _ => rfl, fun _ _ _ _ => rfl, fun _ _ => rfl, fun _ => rfl, fun _ _ _ => rfl, fun _ _ => rfl, fun _ _ => rfl, fun _ => rfl, fun _ _ => rfl, fun _ _ _ _ => rfl, fun _ => rfl, fun _ _ _ => rfl, fun _ _ _ => rfl, fun _ => rfl, fun _ _ _ => rfl, fun _ _ => rfl, fun _ _ => rfl, fun _ _ => rfl, fun _ _ _ _ => rfl, fun _ _ _ => rfl, fun _ _ _ => rfl, fun _ => rfl, fun _ => rfl, fun s τ => ?_, fun s τ i => ?_, fun _ => rfl, fun _ => rfl, rfl⟩
  · cases s <;> rfl
  · simp [notIo]
theorem evl3 :
    (∀ it g b τ, sFor it g b τ = (it τ).s fun ds τ1 => forL (sBody g b) ds τ1) ∧
    (∀ g b d τ, sBody g b d τ = match g d τ with
      | some τ' => b τ'
      | none => .stuck) ∧
    (∀ i d τ, gNm i d τ = if notIo τ i then some (τ.set i (.val d)) else none) ∧
    (∀ τ, gN0 [] τ = some τ) ∧ (∀ g h d ds τ, gN1 g h (d :: ds) τ = match g d τ with
      | some τ' => h ds τ'
      | none => none) ∧
    (∀ n h ds τ, gTp n h (.tup ds) τ = if ds.length = n then h ds τ else none) ∧
    (∀ f τ, sItems f τ = (f τ).bind fun d τ1 => match d.items with
      | some ds => .ok ds τ1
      | none => .stuck) ∧
    (∀ ds, (D.tup ds).items = some ds) ∧ (∀ ds, (D.lst ds).items = some ds) ∧
    (∀ f τ, sRng1 f τ = (f τ).bind fun ds τ1 => match ds with
      | [.int j] => if j.natAbs < 2 ^ 62 then .ok (rng 0 j.toNat) τ1 else .stuck
      | _ => .stuck) ∧
    (∀ f τ, sEnum f τ = (f τ).bind fun ds τ1 => match ds with
      | [.lst es] => .ok (numb 0 es) τ1
      | [.tup es] => .ok (numb 0 es) τ1
      | _ => .stuck) ∧
    (∀ f τ, sZip f τ = (f τ).bind fun ds τ1 => match ds with
      | [.lst es, .lst fs] => .ok (zipD es fs) τ1
      | [.tup es, .tup fs] => .ok (zipD es fs) τ1
      | _ => .stuck) ∧
    (∀ fi g tt el vs τ, sLc fi g tt el vs τ = (fi τ).bind fun ds τ1 => (compL (turnC g tt el vs) ds (wipeT τ1 vs) []).bind fun acc τ2 => .ok (.o (.l acc)) (restT τ1 vs τ2)) ∧
    (∀ g tt el vs d τ, turnC g tt el vs d τ = match g d τ with
      | none => .stuck
      | some τ1 => match tt τ1 with
        | .ok false τ2 => .ok none (wipeT τ2 vs)
        | .ok true τ2 => (match el τ2 with
          | .ok z τ3 => .ok (some z) (wipeT τ3 vs)
          | _ => .stuck)
        | _ => .stuck) ∧
    (∀ τ, wipeT τ [] = τ) ∧ (∀ τ v vs, wipeT τ (v :: vs) = (wipeT τ vs).set v .no) ∧
    (∀ τ1 τ, restT τ1 [] τ = τ) ∧ (∀ τ1 τ v vs, restT τ1 (v :: vs) τ = match τ1[v]? with
      | some (.val d) => (restT τ1 vs τ).set v (.val d)
      | _ => restT τ1 vs τ) := by
  refine ⟨fun _ _ _ _ => rfl, fun _ _ _ _ => rfl, fun _ _ _ => rfl, fun _ => rfl, fun _ _ _ _ _ => rfl, fun _ _ _ _ => rfl, fun _ _ => rfl, fun _ => rfl, fun _ => rfl, fun _ _ => rfl, fun _ _ => rfl, fun _ _ => rfl, fun _ _ _ _ _ _ => rfl, fun _ _ _ _ _ _ => rfl, fun _ => rfl, fun _ _ _ => rfl, fun _ _ => rfl, fun _ _ _ _ => rfl⟩
theorem evl4 :
    (∀ m f as, run m f as = DR.of (f (as ++ List.replicate m .no)) as) ∧
    (∀ r τ as, DR.of (.rt r τ) as = match finals as τ with | some fs => .ok r fs | none => .stuck) ∧
    (∀ τ as, DR.of (.nx τ) as = match finals as τ with | some fs => .ok (.d .non) fs | none => .stuck) ∧
    (∀ τ, finals [] τ = some []) ∧ (∀ o o' as τ, finals (.io o :: as) (.io o' :: τ) = (finals as τ).map (Sl.io o' :: ·)) ∧ (∀ d s as τ, finals (.val d :: as) (s :: τ) = (finals as τ).map (Sl.no :: ·)) ∧ (∀ d s as τ, finals (.own d :: as) (s :: τ) = (finals as τ).map (Sl.no :: ·)) ∧
    (∀ den fa τ, sCall den fa τ = (fa τ).bind fun bs τ1 => if (slL bs).Nodup then (match avL bs τ1 with
      | some as => (match den as with
        | .ok r fs => (match putL bs as fs τ1 with | some τ2 => .ok r τ2 | none => .stuck)
        | .exc x fs => (match putL bs as fs τ1 with | some τ2 => .exc x τ2 | none => .stuck)
        | .stuck => .stuck)
      | none => .stuck) else .stuck) ∧
    (∀ den f τ, sCallF den f τ = (f τ).bind fun r τ1 => match den [r.slot] with
      | .ok z _ => .ok z τ1
      | .exc y _ => .exc y τ1
      | .stuck => .stuck) ∧
    (slL [] = []) ∧ (∀ z bs, slL (.d z :: bs) = slL bs) ∧ (∀ i bs, slL (.sl i :: bs) = i :: slL bs) ∧
    (∀ τ, avL [] τ = some []) ∧ (∀ z bs τ, avL (.d z :: bs) τ = (avL bs τ).map (Sl.val z :: ·)) ∧
    (∀ i bs τ, avL (.sl i :: bs) τ = match τ[i]? with
      | some (.own o) => (avL bs τ).map (Sl.io o :: ·)
      | some (.io o) => (avL bs τ).map (Sl.io o :: ·)
      | some (.val d) => (avL bs τ).map (Sl.val d :: ·)
      | _ => none) ∧
    (∀ τ, putL [] [] [] τ = some τ) ∧ (∀ i bs o as o' fs τ, putL (.sl i :: bs) (.io o :: as) (.io o' :: fs) τ = putL bs as fs (τ.set i ((τ.getD i .no).put o'))) ∧ (∀ z bs d as f fs τ, putL (.d z :: bs) (.val d :: as) (f :: fs) τ = putL bs as fs τ) ∧
    (∀ i bs d as f fs τ, putL (.sl i :: bs) (.val d :: as) (f :: fs) τ = putL bs as fs τ) ∧
    (∀ i g fa τ, sMeth i g fa τ = match τ[i]? with
      | some s0 => (match s0.mut with
        | some (.l _) => (fa τ).bind fun ds τ1 => (match τ1[i]? with
          | some s1 => (match s1.mut with
            | some o => (match g o ds with
              | some (d, o') => .ok (.d d) (τ1.set i (s1.put o'))
              | none => .stuck)
            | none => .stuck)
          | none => .stuck)
        | _ => .stuck)
      | none => .stuck) ∧
    (∀ i fe fi τ, sStore i fe fi τ = (fe τ).s fun d τ1 => match τ1[i]? with
      | some s1 => (match s1.mut with
        | some (.l _) => (fi τ1).s fun k τ2 => (match τ2[i]? with
          | some s2 => (match s2.mut, k with
            | some (.l ds), .int j => (match ixN ds.length j with
              | some m => .nx (τ2.set i (s2.put (.l (ds.set m d))))
              | none => .stuck)
            | _, _ => .stuck)
          | none => .stuck)
        | _ => .stuck)
      | none => .stuck) ∧
    (∀ g fe τ, sUnp g fe τ = (fe τ).s fun d τ1 => match g d τ1 with
      | some τ2 => .nx τ2
      | none => .stuck) ∧
    (∀ τ, sXNil τ = .ok [] τ) ∧ (∀ f g τ, sXCons f g τ = (f τ).bind fun r τ1 => (g τ1).bind fun rs τ2 => .ok (r :: rs) τ2) ∧
    (∀ is fa τ, sPar is fa τ = (fa τ).s fun rs τ1 => match putAll is rs τ1 with
      | some τ2 => .nx τ2
      | none => .stuck) ∧
    (∀ τ, putAll [] [] τ = some τ) ∧ (∀ i is r rs τ, putAll (i :: is) (r :: rs) τ = match putAll is rs τ with
      | some τ' => if notIo τ' i then some (τ'.set i r.slot) else none
      | none => none) ∧
    (∀ cs f τ, sIsi cs f τ = (f τ).bind fun x τ1 => match x.at τ1 with
      | some d => (match d.ty with
        | some t => .ok (.d (.bl (isB t cs))) τ1
        | none => .stuck)
      | none => .stuck) ∧
    (∀ g g' fa fb fc τ, sChain g g' fa fb fc τ = (fa τ).bind fun x τ1 => (fb τ1).bind fun y τ2 => (ap2 g x y τ2).bind fun r τ3 => match r with
      | .d (.bl true) => (fc τ3).bind fun z τ4 => ap2 g' y z τ4
      | .d (.bl false) => .ok (.d (.bl false)) τ3
      | _ => .stuck) := by
  refine ⟨fun _ _ _ => rfl, fun _ _ _ => rfl, fun _ _ => rfl, fun τ => by cases τ <;> rfl, fun _ _ _ _ => rfl, fun _ _ _ _ => rfl, fun _ _ _ _ => rfl, fun _ _ _ => rfl, fun _ _ _ => rfl, rfl, fun _ _ => rfl, fun _ _ => rfl, fun _ => rfl, fun _ _ _ => rfl, fun _ _ _ => rfl, fun _ => rfl, fun _ _ _ _ _ _ _ => rfl, fun _ _ _ _ _ _ _ => rfl, fun _ _ _ _ _ _ _ => rfl, fun _ _ _ _ => rfl, fun _ _ _ _ => rfl, fun _ _ _ => rfl, fun _ => rfl, fun _ _ _ => rfl, fun _ _ _ => rfl, fun _ => rfl, fun _ _ _ _ _ => rfl, fun _ _ _ => rfl, fun _ _ _ _ _ _ => rfl⟩
/-! primitives on their data -/
theorem prim :
    (∀ i j, gAdd (.int i) (.int j) = some (.d (.int (i + j)))) ∧ (∀ x y, gAdd (.lst x) (.lst y) = if x.length + y.length ≤ lim then some (.o (.l (x ++ y))) else none) ∧ (∀ x y, gAdd (.tup x) (.tup y) = if x.length + y.length ≤ lim then some (.d (.tup (x ++ y))) else none) ∧
    (∀ i j, gMul (.int i) (.int j) = if cMul i j then some (.d (.int (i * j))) else none) ∧ (∀ c f i j, gInt c f (.int i) (.int j) = if c i j then some (.d (.int (f i j))) else none) ∧
    (∀ i j, gCmp .lt (.int i) (.int j) = some (.d (.bl (decide (i < j))))) ∧ (∀ i j, gCmp .gt (.int i) (.int j) = some (.d (.bl (decide (j < i))))) ∧ (∀ i j, gCmp .le (.int i) (.int j) = some (.d (.bl (!decide (j < i))))) ∧ (∀ i j, gCmp .ge (.int i) (.int j) = some (.d (.bl (!decide (i < j))))) ∧
    (∀ n i j, gEq n (.int i) (.int j) = some (.d (.bl (n != (i == j))))) ∧
    (∀ ds i, gIx (.lst ds) (.int i) = (atI ds i).map .d) ∧ (∀ ds i, gIx (.tup ds) (.int i) = (atI ds i).map .d) ∧ (∀ ns i, gIx (.scr ns) (.int i) = (atI ns i).map fun n => .d (.int n)) ∧
    (∀ lo hi ds, gSl lo hi (.lst ds) = some (.o (.l (cutA ds lo hi)))) ∧ (∀ lo hi ds, gSl lo hi (.tup ds) = some (.d (.tup (cutA ds lo hi)))) ∧ (∀ lo hi ns, gSl lo hi (.scr ns) = some (.o (.l ((cutA ns lo hi).map .int)))) ∧
    (∀ g d, g1 g [d] = g d) ∧ (∀ ds, gLen (.lst ds) = some (.d (.int ds.length))) ∧ (∀ ds, gLen (.tup ds) = some (.d (.int ds.length))) ∧ (∀ ns, gLen (.scr ns) = some (.d (.int ns.length))) ∧
    (∀ ds, gTuple (.lst ds) = some (.d (.tup ds))) ∧ (∀ ds, gTuple (.tup ds) = some (.d (.tup ds))) ∧ (∀ ds, gList (.lst ds) = some (.o (.l ds))) ∧ (∀ ds, gList (.tup ds) = some (.o (.l ds))) ∧
    (∀ i, gAbs (.int i) = some (.d (.int (if i < 0 then -i else i)))) ∧ (∀ i, gIntC (.int i) = some (.d (.int i))) ∧ (∀ b, gIntC (.bl b) = some (.d (.int (if b then 1 else 0)))) ∧
    (∀ b, (D.bl b).truth = some b) ∧ (∀ i, (D.int i).truth = some (i != 0)) ∧ (∀ ds, (D.lst ds).truth = some (!ds.isEmpty)) ∧ (∀ ds, (D.tup ds).truth = some (!ds.isEmpty)) ∧ (∀ d, (PR.d d).truth = d.truth) ∧ (∀ o, (PR.o (OV.l o)).truth = some (!o.isEmpty)) ∧
    (∀ ds d, mAppend (.l ds) [d] = if ds.length < lim then some (.non, .l (ds ++ [d])) else none) ∧
    (∀ i j, gMin [.int i, .int j] = some (.d (.int (if j < i then j else i)))) ∧ (∀ i j, gMax [.int i, .int j] = some (.d (.int (if j > i then j else i)))) := by
  repeat' apply And.intro
  all_goals (intros; rfl)
theorem slotsE {α : Type} : (∀ (a : α) l, (a :: l)[0]? = some a) ∧ (∀ (a : α) l (i : Nat), (a :: l)[i + 1]? = l[i]?) ∧ (∀ (a b : α) l, (a :: l).set 0 b = b :: l) ∧ (∀ (a b : α) l (i : Nat), (a :: l).set (i + 1) b = a :: l.set i b) ∧ (∀ (a d : α) l, (a :: l).getD 0 d = a) ∧ (∀ (a d : α) l (i : Nat), (a :: l).getD (i + 1) d = l.getD i d) ∧ (∀ l : List α, [] ++ l = l) ∧ (∀ (a : α) l m, (a :: l) ++ m = a :: (l ++ m)) ∧ (∀ a : α, List.replicate 0 a = []) ∧ (∀ (a : α) n, List.replicate (n + 1) a = a :: List.replicate n a) ∧ (∀ (β : Type) (f : α → β) (a : α), (some a).map f = some (f a)) :=
  ⟨fun _ _ => rfl, fun a l i => by simp, fun _ _ _ => rfl, fun _ _ _ _ => rfl, fun _ _ _ => rfl, fun _ _ _ _ => by simp [List.getD], fun _ => rfl, fun _ _ _ => rfl, fun _ => rfl, fun _ _ => rfl, fun _ _ _ => rfl⟩
end U
end

section
set_option Elab.async false
set_option linter.all false
set_option maxRecDepth 100000
namespace U
open PySem PySem.Spec PyProof.Rows L2
/-! ### loops and comprehensions of a known course -/
theorem compL_pure {f : D → T → Rs (Option D)} {h : D → D} {τ : T} : ∀ (ds acc : List D), (∀ d ∈ ds, f d τ = .ok (some (h d)) τ) → acc.length + ds.length ≤ lim → compL f ds τ acc = .ok (acc ++ ds.map h) τ
  | [], acc, _, _ => by simp [compL]
  | d :: ds, acc, hf, hl => by
    have e := hf d (List.mem_cons_self ..)
    rw [List.length_cons] at hl
    have hlt : acc.length < lim := by omega
    show (match f d τ with
      | .ok (some z) τ1 => if acc.length < lim then compL f ds τ1 (acc ++ [z]) else .stuck
      | .ok none τ1 => compL f ds τ1 acc
      | _ => .stuck) = _
    rw [e]
    show (if acc.length < lim then compL f ds τ (acc ++ [h d]) else .stuck) = _
    rw [if_pos hlt, compL_pure ds (acc ++ [h d]) (fun z hz => hf z (List.mem_cons_of_mem _ hz)) (by rw [List.length_append, List.length_singleton]; omega)]
    simp
/-- with a test -/
theorem compL_filter {f : D → T → Rs (Option D)} {p : D → Bool} {h : D → D} {τ : T} : ∀ (ds acc : List D), (∀ d ∈ ds, f d τ = .ok (if p d then some (h d) else none) τ) → acc.length + ds.length ≤ lim → compL f ds τ acc = .ok (acc ++ (ds.filter p).map h) τ
  | [], acc, _, _ => by simp [compL]
  | d :: ds, acc, hf, hl => by
    have e := hf d (List.mem_cons_self ..)
    rw [List.length_cons] at hl
    have hlt : acc.length < lim := by omega
    have ih := fun a hl => compL_filter (f := f) (p := p) (h := h) (τ := τ) ds a (fun z hz => hf z (List.mem_cons_of_mem _ hz)) hl
    show (match f d τ with
      | .ok (some z) τ1 => if acc.length < lim then compL f ds τ1 (acc ++ [z]) else .stuck
      | .ok none τ1 => compL f ds τ1 acc
      | _ => .stuck) = _
    rw [e]
    cases c : p d with
    | true =>
      show (if acc.length < lim then compL f ds τ (acc ++ [h d]) else .stuck) = _
      rw [if_pos hlt, ih _ (by rw [List.length_append, List.length_singleton]; omega), List.filter_cons_of_pos c]
      simp
    | false =>
      show compL f ds τ acc = _
      rw [ih _ (by omega), List.filter_cons_of_neg (by simp [c])]
theorem forL_inv {body : D → T → SR} {P : T → Prop} : ∀ (ds : List D) (τ : T), (∀ d ∈ ds, ∀ τ, P τ → ∃ τ', body d τ = .nx τ' ∧ P τ') → P τ → ∃ τ', forL body ds τ = .nx τ' ∧ P τ'
  | [], τ, _, h => ⟨τ, rfl, h⟩
  | d :: ds, τ, hb, h => by
    obtain ⟨τ1, e, h1⟩ := hb d (List.mem_cons_self ..) τ h
    obtain ⟨τ2, e2, h2⟩ := forL_inv ds τ1 (fun z hz => hb z (List.mem_cons_of_mem _ hz)) h1
    refine ⟨τ2, ?_, h2⟩
    show (match body d τ with
      | .nx τ' => forL body ds τ'
      | .ct τ' => forL body ds τ'
      | .bk τ' => .nx τ'
      | m => m) = _
    rw [e]; exact e2
theorem forL_step {body : D → T → SR} {d : D} {ds : List D} {τ τ1 : T} (h : body d τ = .nx τ1) : forL body (d :: ds) τ = forL body ds τ1 := by
  show (match body d τ with
    | .nx τ' => forL body ds τ'
    | .ct τ' => forL body ds τ'
    | .bk τ' => .nx τ'
    | m => m) = _
  rw [h]
theorem forL_ret {body : D → T → SR} {d : D} {ds : List D} {τ τ1 : T} {r : PR} (h : body d τ = .rt r τ1) : forL body (d :: ds) τ = .rt r τ1 := by
  show (match body d τ with
    | .nx τ' => forL body ds τ'
    | .ct τ' => forL body ds τ'
    | .bk τ' => .nx τ'
    | m => m) = _
  rw [h]
theorem bls_all : ∀ {ds : List D}, (∀ d ∈ ds, d = .bl true) → blsOf ds = some (ds.map fun _ => true)
  | [], _ => rfl
  | d :: ds, h => by
    have e := h d (List.mem_cons_self ..)
    subst e
    show (blsOf ds).map (true :: ·) = _
    rw [bls_all fun z hz => h z (List.mem_cons_of_mem _ hz)]
    rfl
theorem gAll_true {ds : List D} (h : ∀ d ∈ ds, d = .bl true) : gAll (.lst ds) = some (.d (.bl true)) := by
  show (blsOf ds).map _ = _
  rw [bls_all h]
  simp
theorem bls_map (p : α → Bool) : ∀ xs : List α, blsOf (xs.map fun x => D.bl (p x)) = some (xs.map p)
  | [] => rfl
  | x :: xs => by
    show (blsOf (xs.map fun x => D.bl (p x))).map (p x :: ·) = _
    rw [bls_map p xs]; rfl
theorem gAll_map (p : α → Bool) (xs : List α) : gAll (.lst (xs.map fun x => D.bl (p x))) = some (.d (.bl (xs.all p))) := by
  show (blsOf _).map _ = _
  rw [bls_map p xs]
  simp [List.all_map]
theorem gAny_map (p : α → Bool) (xs : List α) : gAny (.lst (xs.map fun x => D.bl (p x))) = some (.d (.bl (xs.any p))) := by
  show (blsOf _).map _ = _
  rw [bls_map p xs]
  simp [List.any_map]
theorem ints_map (f : α → Int) : ∀ xs : List α, U.intsOf (xs.map fun x => D.int (f x)) = some (xs.map f)
  | [] => rfl
  | x :: xs => by
    show (U.intsOf (xs.map fun x => D.int (f x))).map (f x :: ·) = _
    rw [ints_map f xs]; rfl
theorem gSum_map (f : α → Int) (xs : List α) : gSum2 (.lst (xs.map fun x => D.int (f x))) = some (.d (.int (xs.map f).sum)) := by
  show (U.intsOf _).map _ = _
  rw [ints_map f xs]; rfl
/-! ### data that is compared whole -/
def okS : Nat → D → Bool
  | n, d => match d with
    | .non => true
    | .bl _ => true
    | .int _ => true
    | .str x => x.all (· < 0x110000)
    | .tup xs => (match n with
      | 0 => false
      | n + 1 => decide (xs.length < lim) && xs.all (okS n))
    | .lst xs => (match n with
      | 0 => false
      | n + 1 => decide (xs.length < lim) && xs.all (okS n))
    | _ => false
theorem okS_ok : ∀ (n : Nat) (d : D), okS n d = true → d.ok n = true := by
  intro n
  induction n with
  | zero =>
    intro d h
    cases d <;> first | rfl | (simp [okS] at h; done) | skip
    simpa [okS, D.ok] using h
  | succ n ih =>
    have all : ∀ xs : List D, xs.all (okS n) = true → D.okL xs n = true := fun xs => by
      induction xs with
      | nil => intro _; rfl
      | cons x xs ihx =>
        intro h
        rw [List.all_cons, Bool.and_eq_true] at h
        show (x.ok n && D.okL xs n) = true
        rw [ih x h.1, ihx h.2]; rfl
    intro d h
    cases d with
    | tup xs =>
      unfold okS at h
      simp only [Bool.and_eq_true, decide_eq_true_eq] at h
      show D.okL xs n = true
      exact all xs h.2
    | lst xs =>
      unfold okS at h
      simp only [Bool.and_eq_true, decide_eq_true_eq] at h
      show D.okL xs n = true
      exact all xs h.2
    | str x => simpa [okS, D.ok] using h
    | non => rfl
    | bl b => rfl
    | int i => rfl
    | _ => simp [okS] at h
theorem eqb_self : ∀ (n : Nat) (d : D), okS n d = true → d.eqb d = true := by
  intro n
  induction n with
  | zero =>
    intro d h
    cases d <;> first | (simp [okS] at h; done) | simp [D.eqb]
  | succ n ih =>
    have all : ∀ xs : List D, xs.all (okS n) = true → D.eqbL xs xs = true := fun xs => by
      induction xs with
      | nil => intro _; rfl
      | cons x xs ihx =>
        intro h
        rw [List.all_cons, Bool.and_eq_true] at h
        show (x.eqb x && D.eqbL xs xs) = true
        rw [ih x h.1, ihx h.2]; rfl
    intro d h
    cases d with
    | tup xs =>
      unfold okS at h
      simp only [Bool.and_eq_true, decide_eq_true_eq] at h
      exact all xs h.2
    | lst xs =>
      unfold okS at h
      simp only [Bool.and_eq_true, decide_eq_true_eq] at h
      exact all xs h.2
    | str x => simp [D.eqb]
    | non => rfl
    | bl b => simp [D.eqb]
    | int i => simp [D.eqb]
    | _ => simp [okS] at h
theorem zipD_self : ∀ {xs : List D} {z : D}, z ∈ zipD xs xs → ∃ x ∈ xs, z = .tup [x, x]
  | [], z, h => by simp [zipD] at h
  | x :: xs, z, h => by
    rcases List.mem_cons.mp (show z ∈ .tup [x, x] :: zipD xs xs from h) with e | h
    · exact ⟨x, List.mem_cons_self .., e⟩
    · obtain ⟨y, hy, e⟩ := zipD_self h
      exact ⟨y, List.mem_cons_of_mem _ hy, e⟩
theorem tyE : D.non.ty = some "NoneType" ∧ (∀ b, (D.bl b).ty = some "bool") ∧ (∀ b, (D.int b).ty = some "int") ∧ (∀ b, (D.str b).ty = some "str") ∧ (∀ b, (D.tup b).ty = some "tuple") ∧ (∀ b, (D.lst b).ty = some "list") := ⟨rfl, fun _ => rfl, fun _ => rfl, fun _ => rfl, fun _ => rfl, fun _ => rfl⟩
theorem isE :
    isB "NoneType" ["list", "tuple"] = false ∧ isB "bool" ["list", "tuple"] = false ∧ isB "int" ["list", "tuple"] = false ∧ isB "str" ["list", "tuple"] = false ∧ isB "tuple" ["list", "tuple"] = true ∧ isB "list" ["list", "tuple"] = true ∧
    isB "tuple" ["list"] = false ∧ isB "list" ["list"] = true ∧ isB "tuple" ["tuple"] = true ∧ isB "list" ["tuple"] = false ∧
    isB "NoneType" ["bool", "str"] = false ∧ isB "bool" ["bool", "str"] = true ∧ isB "int" ["bool", "str"] = false ∧ isB "str" ["bool", "str"] = true ∧
    isB "NoneType" ["bool"] = false ∧ isB "bool" ["bool"] = true ∧ isB "int" ["bool"] = false ∧ isB "str" ["bool"] = false ∧ isB "int" ["int"] = true := by decide
theorem eqE : (∀ n a b, gEq n (.bl a) (.bl b) = some (.d (.bl (n != (a == b))))) ∧ (∀ n d, gIs n d .non = some (.d (.bl (n != d.isNon)))) ∧ (D.non.isNon = true) ∧ (∀ b, (D.bl b).isNon = false) ∧ (∀ b, (D.int b).isNon = false) ∧ (∀ b, (D.str b).isNon = false) ∧ (∀ n, gEq n .non .non = some (.d (.bl (n != true)))) :=
  ⟨fun _ _ _ => rfl, fun _ _ => rfl, rfl, fun _ => rfl, fun _ => rfl, fun _ => rfl, fun _ => rfl⟩
end U
end

section
set_option Elab.async false
set_option linter.all false
set_option maxRecDepth 100000
/-! sorting: tuples, some of them empty; a sort that computes -/
namespace U
open PySem PySem.Spec PyProof.Rows PySem.W PySem.SeqAt
section
variable {prog : Program} {w : World} {A : Around} {E : Value → Shared → Prop} {s : Shared}
/-- tuple's own < as the sort calls it -/
theorem tup_lt_call {Q : Value → Shared → Prop} {l b : Addr} {xs ys : Array Value} {e r : Nat → Bool} (hl : s.heap.IsTuple l xs) (hb : s.heap.IsTuple b ys)
    (he : ∀ j (p : j < xs.size) (q : j < ys.size), EqAt A.in1 s xs[j] ys[j] (e j)) (hr : ∀ j (p : j < xs.size) (q : j < ys.size), e j = false → RcLt A.in1 s xs[j] ys[j] (r j))
    (h : Q (.bool (firstLt e r (decide (xs.size < ys.size)) (List.range (min xs.size ys.size)))) s) : wpAny (model prog w) A (call (.builtin "tuple.__lt__") [.ref l, .ref b]) Q E s := by
  obtain ⟨⟨c1, d1, a1, s1⟩, o1, hc1, n1, hd1⟩ := id hl
  obtain ⟨⟨c2, d2, a2, s2⟩, o2, hc2, n2, hd2⟩ := id hb
  simp only at hc1 hd1 hc2 hd2
  subst hc1 hd1 hc2 hd2
  exact call_meets F.slot_tuple_lt ⟨_, o1, rfl⟩ F.entry_tuple_lt (F.args_tuple_lt_2 _ _) (tuple_ltAt l b xs ys n1 n2 d1 d2 s1 s2 e r) ⟨o1, o2, he, hr, h⟩
theorem one_tup {xs ys : List PyData} {a b : Value} {as bs : List Addr} {Q : Bool → Shared → Prop} (ra : Reads s.heap a (.tuple xs) as) (rb : Reads s.heap b (.tuple ys) bs) (hal : alikeAll xs ys = true)
    (hu : A.units + min (PyData.tuple xs).depth (PyData.tuple ys).depth < cLine) (hq : Q (dataLt (.tuple xs) (.tuple ys)) s) : wpAny (model prog w) A (oneLt' true a b) Q E s := by
  cases ra with
  | @tuple l o vs n _ as₁ h1 h2 h3 h4 =>
    cases rb with
    | @tuple l' o' vs' n' _ bs₁ k1 k2 k3 k4 =>
      have z1 : vs.size = xs.length := by simpa using ReadsAll.length _ _ _ h4
      have z2 : vs'.size = ys.length := by simpa using ReadsAll.length _ _ _ k4
      rw [dataLt_tuple, ← firstLt_toks xs ys hal, ← z1, ← z2] at hq
      rw [oneLt'_eq]
      simp only [if_true]
      refine wpAny_bind (wpAny_cRoomFor (room_here hu) (wpAny_bind (wpAny_callSpecialIfBound?_slot (T := "tuple") ⟨_, h1, h2⟩ F.slot_tuple_lt ?_)))
      refine tup_lt_call (e := pairEq xs ys) (r := fun j => dataLt (xs.getD j .none) (ys.getD j .none)) ⟨_, h1, h2, _, h3⟩ ⟨_, k1, k2, _, k3⟩ (fun j p q => ?_) (fun j p q hj => ?_) (wpAny_truthy_bool hq)
      · have z := eqAt_alikeAll xs ys A.in1 s vs.toList vs'.toList _ _ h4 k4 hal (room_in hu) j (by simpa using p) (by simpa using q)
        simpa using z
      · have z := rcLt_alikeAll xs ys A.in1 s vs.toList vs'.toList _ _ h4 k4 hal (room_in hu) j (by simpa using p) (by simpa using q) hj
        simpa using z
theorem gen_lt (x y : Value) : keyLt' general' x y = oneLt' false x y := rfl
def emT : PyData → Bool
  | .tuple [] => true
  | _ => false
theorem emT_eq {d : PyData} (h : emT d = true) : d = .tuple [] := by
  unfold emT at h
  split at h
  · rfl
  · cases h
/-- the firsts of tuples -/
theorem firsts_any : ∀ {vs : List Value} {ds : List PyData} {Q : List (Option Value) → Shared → Prop}, EachIs (fun v d => ∃ as, Reads s.heap v d as) vs ds → (∀ d ∈ ds, ∃ xs, d = .tuple xs) →
    (∀ fs, EachIs (fun (f : Option Value) d => f.isSome = !emT d) fs ds → Q fs s) → wpAny (model prog w) A (vs.mapM firstOfTuple') Q E s
  | _, _, Q, .nil, _, h => by rw [List.mapM_nil]; exact wpAny_pure (h [] .nil)
  | _, _, Q, .cons (a := v) (b := d) (as := vs) (bs := ds) ⟨as, r⟩ t, ht, h => by
    obtain ⟨xs, rfl⟩ := ht d (List.mem_cons_self ..)
    cases r with
    | @tuple l o ys n _ _ ho hc hd hr =>
      rw [List.mapM_cons]
      refine wpAny_bind ?_
      rw [kas_first_eq]
      refine wpAny_bind (Looks.here (show Looks _ s.heap (typeOf (.ref l)) o.cls from (Looks.ld ho).andThen .now) ?_)
      rw [hc, if_neg (by first | decide | simp)]
      refine wpAny_bind (listItems_at ho hd (wpAny_pure ?_))
      refine wpAny_bind (firsts_any (Q := fun bs s' => wpAny (model prog w) A (pure (ys[0]? :: bs)) Q E s') t (fun d hd => ht d (List.mem_cons_of_mem _ hd)) fun fs hf => wpAny_pure (h _ (.cons ?_ hf)))
      have z := ReadsAll.length _ _ _ hr
      rw [Array.length_toList] at z
      cases xs with
      | nil =>
        have z0 : ys.size = 0 := z
        have : ys[0]? = none := Array.getElem?_eq_none (by omega)
        rw [this]; rfl
      | cons x xs =>
        have z0 : 0 < ys.size := by rw [z, List.length_cons]; omega
        rw [Array.getElem?_eq_getElem z0]; rfl
theorem each_len {α β : Type} {R : α → β → Prop} : ∀ {as : List α} {bs : List β}, EachIs R as bs → as.length = bs.length
  | _, _, .nil => rfl
  | _, _, .cons _ t => congrArg (· + 1) (each_len t)
theorem each_some : ∀ {fs : List (Option Value)} {ds : List PyData}, EachIs (fun (f : Option Value) d => f.isSome = !emT d) fs ds → (∃ d ∈ ds, emT d = true) → fs.all (·.isSome) = false
  | _, _, .nil, ⟨d, h, _⟩ => by cases h
  | _, _, .cons (a := f) (b := d) h t, ⟨e, he, q⟩ => by
    rw [List.all_cons]
    rcases List.mem_cons.mp he with rfl | he
    · rw [h, q]; rfl
    · rw [each_some t ⟨e, he, q⟩, Bool.and_false]
/-- tuples of which one at least is empty -/
theorem kind_empties {vs : List Value} {ds : List PyData} {Q : SortKind → Shared → Prop} (h2 : 2 ≤ vs.length) (e : EachIs (fun v d => ∃ as, Reads s.heap v d as) vs ds) (ht : ∀ d ∈ ds, ∃ xs, d = .tuple xs) (he : ∃ d ∈ ds, emT d = true)
    (h : ∀ κ, (κ = general' ∨ κ = oneType') → (κ = if ds.head?.any emT then oneType' else general') → Q κ s) : wpAny (model prog w) A (keyKind' vs.toArray) Q E s := by
  rw [kat_kind_eq, List.mapM_toArray, map_eq_pure_bind]
  refine wpAny_bind (wpAny_bind (firsts_any e ht fun fs hf => wpAny_pure ?_))
  have hall : (fs.toArray.all fun x => x.isSome) = false := by
    have := each_some hf he
    simpa using this
  rw [if_neg (by rw [hall]; exact Bool.false_ne_true)]
  cases hf with
  | nil => obtain ⟨_, hd, _⟩ := he; cases hd
  | @cons f d fs ds hf0 hft =>
    have h0 : ((f :: fs).toArray[0]?.bind id) = f := by simp
    rw [h0]
    by_cases c : emT d = true
    · have fn : f.isSome = false := by rw [hf0, c]; rfl
      rw [if_neg (by rw [fn]; exact Bool.false_ne_true), oneTypeOnly'_eq, List.mapM_toArray, map_eq_pure_bind]
      have hT : ∀ v ∈ vs, Looks (model prog w) s.heap (typeOf v) (Value.type "tuple") := fun v hv => by
        obtain ⟨x, hx, as, r⟩ := e.left v hv
        obtain ⟨xs, rfl⟩ := ht x hx
        exact looks_reads r
      refine wpAny_bind (wpAny_bind (wpAny_bind (kas_mapM (r := Value.type "tuple") _ (fun v hv Q' hq => (hT v hv).here hq) (wpAny_pure ?_))))
      obtain ⟨v1, vr, rfl⟩ : ∃ v1 vr, vs = v1 :: vr := by
        cases vs with
        | nil => simp at h2
        | cons v1 vr => exact ⟨v1, vr, rfl⟩
      have h01 : (List.map (fun _ => Value.type "tuple") (v1 :: vr)).toArray[0]? = some (Value.type "tuple") := by simp
      rw [h01]
      have hal2 : ((List.map (fun _ => Value.type "tuple") (v1 :: vr)).toArray.all fun x => x == Value.type "tuple") = true := by
        simp only [List.all_toArray, List.all_map, List.all_eq_true]
        intro _ _; rfl
      dsimp only
      rw [if_pos hal2]
      refine wpAny_pure (wpAny_pure ?_)
      exact h _ (.inr rfl) (by rw [show ((d :: ds).head?.any emT) = true from c]; rfl)
    · have c : emT d = false := by simpa using c
      have fs' : f.isSome = true := by rw [hf0, c]; rfl
      rw [if_pos fs']
      refine wpAny_pure (h _ (.inl rfl) ?_)
      rw [show ((d :: ds).head?.any emT) = false from c]; rfl
theorem sorts_tups {vs : List Value} {ds : List PyData} (e : EachIs (fun v d => ∃ as, Reads s.heap v d as) vs ds) (hal : AllAlike ds) (ht : ∀ d ∈ ds, ∃ xs, d = .tuple xs) (hu : ∀ d ∈ ds, A.units + d.depth < cLine) : SortsAt prog w A s (dataKind s.heap ds) vs := by
  by_cases c : ∃ d ∈ ds, emT d = true
  · have room : ∀ {d d' : PyData}, d ∈ ds → A.units + min d.depth d'.depth < cLine := fun {d d'} hd => Nat.lt_of_le_of_lt (Nat.add_le_add_left (Nat.min_le_left _ _) _) (hu d hd)
    refine ⟨fun v hv => ?_, (if ds.head?.any emT then oneType' else general'), ?_, fun h2 E Q hq => kind_empties h2 e ht c fun κ _ hκ => by rw [hκ]; exact hq⟩
    · obtain ⟨d, hd, as, r⟩ := e.left v hv
      exact ⟨_, dataKind_some hal hd r⟩
    · intro E x y a b Q ha hb hq
      obtain ⟨d, as, hd, ra, rfl⟩ := dataKind_inv ha
      obtain ⟨d', as', hd', rb, rfl⟩ := dataKind_inv hb
      have hdd := hal d hd d' hd'
      have hr := room (d' := d') hd
      obtain ⟨xs, rfl⟩ := ht d hd
      obtain ⟨ys, rfl⟩ := ht d' hd'
      by_cases q : ds.head?.any emT = true
      · rw [if_pos q, keyLt'_oneType]
        exact one_tup ra rb (by simpa [alike] using hdd) hr hq
      · rw [if_neg q, gen_lt]
        exact oneLt_alike (fun z => nomatch z) ra rb hdd (fun z => nomatch z) hr hq
  · refine SortsAt.data e hal (.inl fun d hd => ?_) hu
    obtain ⟨xs, rfl⟩ := ht d hd
    cases xs with
    | nil => exact absurd ⟨_, hd, rfl⟩ c
    | cons x xs => exact ⟨x, xs, rfl⟩
end
end U
end

section
set_option Elab.async false
set_option linter.all false
set_option maxRecDepth 100000
namespace U
open PySem PySem.Spec PyProof.Rows L2
/-! ### a sort that computes -/
def leD (d e : D) : Bool := !e.lt d
def insD (d : D) : List D → List D
  | [] => [d]
  | e :: es => if leD d e then d :: e :: es else e :: insD d es
def sortD : List D → List D
  | [] => []
  | d :: ds => insD d (sortD ds)
def canSort (ds : List D) : Bool := decide (ds.length ≤ lim) && ds.all (fun d => d.ok 60 && !d.isNon && ds.all (fun e => d.like e))
mutual
theorem eqb_eq : ∀ (d e : D), d.like e = true → d.eqb e = true → d = e
  | .non, e, h, q => by cases e <;> first | (simp [D.like] at h; done) | rfl
  | .bl a, e, h, q => by
    cases e <;> first | (simp [D.like] at h; done) | skip
    simp only [D.eqb, beq_iff_eq] at q; rw [q]
  | .int i, e, h, q => by
    cases e <;> first | (simp [D.like] at h; done) | skip
    simp only [D.eqb, beq_iff_eq] at q; rw [q]
  | .str x, e, h, q => by
    cases e <;> first | (simp [D.like] at h; done) | skip
    simp only [D.eqb, beq_iff_eq] at q; rw [q]
  | .tup xs, e, h, q => by
    cases e <;> first | (simp [D.like] at h; done) | skip
    simp only [D.eqb] at q
    rw [eqbL_eq xs _ (by simpa [D.like] using h) q]
  | .lst xs, e, h, q => by
    cases e <;> first | (simp [D.like] at h; done) | skip
    simp only [D.eqb] at q
    rw [eqbL_eq xs _ (by simpa [D.like] using h) q]
  | .dct _ _ _, e, h, _ => by simp [D.like] at h
  | .exc _ _, e, h, _ => by simp [D.like] at h
  | .ptp _, e, h, _ => by simp [D.like] at h
  | .scr _, e, h, _ => by simp [D.like] at h
theorem eqbL_eq : ∀ (ds es : List D), D.likeL ds es = true → D.eqbL ds es = true → ds = es
  | [], es, _, q => by cases es <;> first | rfl | simp [D.eqbL] at q
  | d :: ds, [], _, q => by simp [D.eqbL] at q
  | d :: ds, e :: es, h, q => by
    simp only [D.likeL, Bool.and_eq_true] at h
    simp only [D.eqbL, Bool.and_eq_true] at q
    rw [eqb_eq d e h.1 q.1, eqbL_eq ds es h.2 q.2]
end
abbrev leP : D → D → Bool := PySem.W.dataLe false D.py
theorem leP_tot : PySem.W.TotalLe leP := PySem.W.sortLe_total _ _ _
theorem leP_eq {d e : D} (h : e.like d = true) : leP d e = leD d e := by
  show (!PySem.W.dataLt e.py d.py) = !e.lt d
  rw [D.lt_py e d h]
theorem leP_anti {d e : D} (h : d.like e = true) (h1 : leP d e = true) (h2 : leP e d = true) : d = e := by
  have a1 : PySem.W.dataLt e.py d.py = false := by simpa [leP, PySem.W.dataLe_eq] using h1
  have a2 : PySem.W.dataLt d.py e.py = false := by simpa [leP, PySem.W.dataLe_eq] using h2
  have ek : PySem.W.keyToks d.py = PySem.W.keyToks e.py := PyProof.Rows.lex_total _ _ a2 a1
  refine eqb_eq d e h ?_
  rw [← D.eqv_py]
  cases q : PyData.eqv d.py e.py with
  | true => rfl
  | false =>
    have t := (PySem.W.toks_eqv d.py e.py (D.like_py d e h)).2 q [] [.inl 0]
    rw [ek, PyProof.Rows.lex_irrefl, List.append_nil] at t
    have : PyProof.Rows.lexLt PyProof.Rows.itemOrd (PySem.W.keyToks e.py ++ []) (PySem.W.keyToks e.py ++ [.inl 0]) = true := by
      rw [PySem.W.lex_pre]; rfl
    rw [List.append_nil, t] at this
    cases this
theorem insD_perm (d : D) : ∀ es : List D, (insD d es).Perm (d :: es)
  | [] => .refl _
  | e :: es => by
    unfold insD
    split
    · exact .refl _
    · exact ((insD_perm d es).cons e).trans (.swap ..)
theorem sortD_perm : ∀ ds : List D, (sortD ds).Perm ds
  | [] => .refl _
  | d :: ds => (insD_perm d _).trans ((sortD_perm ds).cons d)
theorem insD_sorted {d : D} : ∀ {es : List D}, (∀ e ∈ es, e.like d = true ∧ d.like e = true) → es.Pairwise (fun a b => leP a b = true) → (insD d es).Pairwise fun a b => leP a b = true
  | [], _, _ => List.pairwise_singleton _ _
  | e :: es, hl, hs => by
    have h0 := hl e (List.mem_cons_self ..)
    obtain ⟨s1, s2⟩ := List.pairwise_cons.mp hs
    unfold insD
    split
    · rename_i c
      have c' : leP d e = true := by rw [leP_eq h0.1]; exact c
      refine List.pairwise_cons.mpr ⟨fun x hx => ?_, hs⟩
      rcases List.mem_cons.mp hx with rfl | hx
      · exact c'
      · exact leP_tot.trans _ _ _ c' (s1 x hx)
    · rename_i c
      have c' : leP e d = true := by
        rcases leP_tot.total e d with q | q
        · exact q
        · rw [leP_eq h0.1] at q; exact absurd q c
      refine List.pairwise_cons.mpr ⟨fun x hx => ?_, insD_sorted (fun y hy => hl y (List.mem_cons_of_mem _ hy)) s2⟩
      rcases List.mem_cons.mp ((insD_perm d es).mem_iff.mp hx) with rfl | hx
      · exact c'
      · exact s1 x hx
theorem sortD_sorted : ∀ {ds : List D}, (∀ d ∈ ds, ∀ e ∈ ds, d.like e = true) → (sortD ds).Pairwise fun a b => leP a b = true
  | [], _ => List.Pairwise.nil
  | d :: ds, h => insD_sorted (fun e he => by
      have he' := (sortD_perm ds).mem_iff.mp he
      exact ⟨h e (List.mem_cons_of_mem _ he') d (List.mem_cons_self ..), h d (List.mem_cons_self ..) e (List.mem_cons_of_mem _ he')⟩)
      (sortD_sorted fun x hx y hy => h x (List.mem_cons_of_mem _ hx) y (List.mem_cons_of_mem _ hy))
theorem sorted_one {α : Type} {le : α → α → Prop} : ∀ {xs ys : List α}, xs.Perm ys → xs.Pairwise le → ys.Pairwise le → (∀ a ∈ xs, ∀ b ∈ xs, le a b → le b a → a = b) → xs = ys
  | [], ys, p, _, _, _ => p.symm.eq_nil.symm
  | x :: xs, [], p, _, _, _ => by cases p.eq_nil
  | x :: xs, y :: ys, p, h1, h2, anti => by
    obtain ⟨a1, a2⟩ := List.pairwise_cons.mp h1
    obtain ⟨b1, b2⟩ := List.pairwise_cons.mp h2
    have hx : x ∈ y :: ys := p.mem_iff.mp (List.mem_cons_self ..)
    have hy : y ∈ x :: xs := p.mem_iff.mpr (List.mem_cons_self ..)
    have e : x = y := by
      rcases List.mem_cons.mp hx with e | hx
      · exact e
      · rcases List.mem_cons.mp hy with e | hy'
        · exact e.symm
        · exact anti x (List.mem_cons_self ..) y hy (a1 y hy') (b1 x hx)
    subst e
    rw [sorted_one (List.Perm.cons_inv p) a2 b2 fun a ha b hb => anti a (List.mem_cons_of_mem _ ha) b (List.mem_cons_of_mem _ hb)]
theorem merge_eq {ds : List D} (h : ∀ d ∈ ds, ∀ e ∈ ds, d.like e = true) : ds.mergeSort leP = sortD ds := by
  refine sorted_one (le := fun a b => leP a b = true) ((List.mergeSort_perm ds _).trans (sortD_perm ds).symm) (List.pairwise_mergeSort (fun a b c h1 h2 => leP_tot.trans a b c h1 h2) (fun a b => by simpa using leP_tot.total a b) ds) (sortD_sorted h) fun a ha b hb h1 h2 => ?_
  exact leP_anti (h a ((List.mergeSort_perm ds _).mem_iff.mp ha) b ((List.mergeSort_perm ds _).mem_iff.mp hb)) h1 h2
end U
end

section
set_option Elab.async false
set_option linter.all false
set_option maxRecDepth 100000
namespace U
open PySem PySem.Spec PyProof.Rows L2
section
variable {prog : Program} {w : World} {A : Around} {E : Value → Shared → Prop} {s : Shared}
/-- the items of a tuple, gathered -/
theorem gather_tup {l : Addr} {vs : List Value} {Q : List Value → Shared → Prop} (hl : s.heap.IsTuple l vs.toArray) (hsz : vs.length ≤ sizeLine)
    (h : Q vs { s with heap := (s.heap.push (seqObj "list" #[] 0)).update s.heap.objs.size (Obj.mapSeq (· ++ vs.toArray)) }) : wpAny (model prog w) A (collect (.ref l)) Q E s := by
  obtain ⟨o, ho, hc, n, hd⟩ := id hl
  unfold collect
  refine wpAny_bind (wpAny_runValue (codeAny_builtin entry_proto_collect' ?_))
  show wpAny _ _ (newList [] >>= fun x => again (.builtin "list.__iadd__" ⟨[x, .ref l], []⟩)) _ _ s
  refine wpAny_bind (wpAny_newList (wpAny_pure ⟨Code.quiet_builtin _ (by decide +kernel), codeAny_builtin entry_list_iadd' ?_⟩))
  show wpAny _ _ (Builtin.List.listExtendWith (.ref s.heap.objs.size) (.ref l) (.ref s.heap.objs.size)) _ _ { s with heap := s.heap.push (seqObj "list" #[] 0) }
  unfold Builtin.List.listExtendWith
  have ho2 : (s.heap.push (seqObj "list" #[] 0)).get? l = some o := Heap.get?_push_of_some _ ho
  refine wpAny_bind (wpAny_typeOf (T := "tuple") ⟨o, ho2, hc⟩ ?_)
  rw [if_pos (by rw [show (Value.type "tuple" == Value.type "tuple") = true from rfl]; simp)]
  refine wpAny_bind (listItems_at ho2 hd (wpAny_bind (listItems_at (xs := #[]) (n := 0) (Heap.get?_push_size _ rfl) rfl ?_)))
  rw [if_neg (by simp)]
  refine wpAny_bind (listUpdate_at (xs := #[]) (n := 0) (Heap.get?_push_size _ rfl) rfl (wpAny_pure ?_) (Nat.zero_le _) (by show (#[] ++ vs.toArray).size ≤ sizeLine + 1; simp only [Array.size_append, List.size_toArray, List.length_nil]; omega))
  show wpAny (model prog w) A (load s.heap.objs.size >>= fun o => match o.data with
      | .seq xs _ => pure xs.toList
      | _ => unsupported "internal:collect") Q E { s with heap := (s.heap.push (seqObj "list" #[] 0)).update s.heap.objs.size (Obj.mapSeq (· ++ vs.toArray)) }
  refine wpAny_bind (wpAny_load (get?_update_seq (Heap.get?_push_size _ rfl) _) ?_)
  show wpAny _ _ (pure ((#[] : Array Value) ++ vs.toArray).toList) Q E _
  rw [show ((#[] : Array Value) ++ vs.toArray).toList = vs by simp]
  exact wpAny_pure h
theorem sorted_seq {κ : PyProof.Rows.KeyKind} {l : Addr} {vs : List Value} {Q : Value → Shared → Prop} (hl : s.heap.IsList l vs.toArray ∨ s.heap.IsTuple l vs.toArray) (hL : vs.length ≤ sizeLine)
    (S : PySem.W.SortsAt prog w A.in1.in1 { s with heap := PySem.W.sortingHeap (PySem.W.copyHeap s.heap vs) (s.heap.objs.size + 1) vs } κ vs)
    (h : Q (.ref (s.heap.objs.size + 1)) { s with heap := sortedAll s.heap vs (PySem.W.sortVals κ false vs vs).toArray }) : wpAny (model prog w) A (call (.builtin "sorted") [.ref l]) Q E s := by
  rcases hl with hl | hl
  · exact PySem.W.sorted_vals hl S hL h
  · refine Calls.call_function_entry kind_sorted plain_sorted entry_sorted (args_sorted1 _) ?_
    unfold Builtin.«sorted»
    refine wpAny_bind (m := checkCount "sorted" 1 1 _) (wpAny_pure (wpAny_bind (gather_tup hl hL (wpAny_bind (wpAny_newList ?_ hL)))))
    have hsz : ((s.heap.push (seqObj "list" #[] 0)).update s.heap.objs.size (Obj.mapSeq (· ++ vs.toArray))).objs.size = s.heap.objs.size + 1 := by rw [Heap.size_update, size_push']
    show wpAny _ _ _ _ _ { s with heap := PySem.W.copyHeap s.heap vs }
    rw [hsz]
    refine wpAny_bind (wpAny_holding (wpAny_call_entry slot_list_sort ⟨_, PySem.W.copyHeap_at s.heap vs, rfl⟩ entry_list_sort (PySem.W.list_sort_vals (s := { s with heap := PySem.W.copyHeap s.heap vs }) (PySem.W.copyHeap_at s.heap vs) S hL ⟨_, rfl, ?_⟩) (args_list_sort _)))
    exact wpAny_pure ⟨_, rfl, h⟩
end
theorem pyL_map : ∀ ds : List D, D.pyL ds = ds.map D.py
  | [] => rfl
  | d :: ds => by simp only [D.pyL, List.map_cons, pyL_map ds]
theorem each_reads {h : Heap} : ∀ {us : List Value} {ds : List D} {as : List Addr}, ReadsAll h us (D.pyL ds) as → PySem.W.EachIs (fun v d => ∃ as, Reads h v (D.py d) as) us ds
  | _, [], _, r => by rw [D.pyL] at r; cases r; exact .nil
  | _, d :: ds, _, r => by
    rw [D.pyL] at r
    cases r with
    | cons r1 r2 => exact .cons ⟨_, r1⟩ (each_reads r2)
def isTup : D → Bool
  | .tup _ => true
  | _ => false
theorem py_tup {d : D} (h : isTup d = true) : ∃ xs, d.py = .tuple xs := by
  cases d <;> first | (simp [isTup] at h; done) | (simp only [D.py]; exact ⟨_, rfl⟩)
theorem py_nontup {d : D} (h : isTup d = false) : ∀ xs, d.py ≠ .tuple xs := by
  cases d <;> first | (simp [isTup] at h; done) | (simp only [D.py]; intro xs z; cases z)
theorem like_tup {d e : D} (h : d.like e = true) : isTup d = isTup e := by
  cases d <;> cases e <;> first | rfl | (simp [D.like] at h)
/-- what canSort says -/
structure CanSort (ds : List D) : Prop where
  len : ds.length ≤ lim
  ok : ∀ d ∈ ds, d.ok 60 = true
  non : ∀ d ∈ ds, d.isNon = false
  like : ∀ d ∈ ds, ∀ e ∈ ds, d.like e = true
theorem canSort_of {ds : List D} (h : canSort ds = true) : CanSort ds := by
  unfold canSort at h
  rw [Bool.and_eq_true, decide_eq_true_eq] at h
  have q := List.all_eq_true.mp h.2
  refine ⟨h.1, fun d hd => ?_, fun d hd => ?_, fun d hd e he => ?_⟩
  · have := q d hd; simp only [Bool.and_eq_true] at this; exact this.1.1
  · have := q d hd; simp only [Bool.and_eq_true, Bool.not_eq_true'] at this; exact this.1.2
  · have := q d hd; simp only [Bool.and_eq_true] at this; exact List.all_eq_true.mp this.2 e he
theorem canSort_iff {ds : List D} (h : CanSort ds) : canSort ds = true := by
  unfold canSort
  rw [Bool.and_eq_true, decide_eq_true_eq]
  refine ⟨h.len, List.all_eq_true.mpr fun d hd => ?_⟩
  simp only [Bool.and_eq_true, Bool.not_eq_true']
  exact ⟨⟨h.ok d hd, h.non d hd⟩, List.all_eq_true.mpr fun e he => h.like d hd e he⟩
theorem CanSort.sub {ds es : List D} (h : CanSort ds) (hs : ∀ e ∈ es, e ∈ ds) (hl : es.length ≤ ds.length) : CanSort es :=
  ⟨Nat.le_trans hl h.len, fun d hd => h.ok d (hs d hd), fun d hd => h.non d (hs d hd), fun d hd e he => h.like d (hs d hd) e (hs e he)⟩
/-- such values can be sorted -/
theorem sorts_D {prog : Program} {w : World} {A : Around} {s : Shared} {us : List Value} {ds : List D} (c : CanSort ds) (er : PySem.W.EachIs (fun v d => ∃ as, Reads s.heap v (D.py d) as) us ds) (hu : A.units + 61 < cLine) :
    PySem.W.SortsAt prog w A s (PySem.W.dataKind s.heap (ds.map D.py)) us := by
  have hal : PySem.W.AllAlike (ds.map D.py) := fun x hx y hy => by
    obtain ⟨d, hd, rfl⟩ := List.mem_map.mp hx
    obtain ⟨e, he, rfl⟩ := List.mem_map.mp hy
    exact D.like_py d e (c.like d hd e he)
  have hub : ∀ x ∈ ds.map D.py, A.units + x.depth < cLine := fun x hx => by
    obtain ⟨d, hd, rfl⟩ := List.mem_map.mp hx
    have := (D.ok_lay d 60 (c.ok d hd)).2
    omega
  have em := PySem.W.each_map (R := fun v d => ∃ as, Reads s.heap v d as) D.py er
  by_cases t : ∀ d ∈ ds, isTup d = true
  · refine sorts_tups em hal (fun x hx => ?_) hub
    obtain ⟨d, hd, rfl⟩ := List.mem_map.mp hx
    exact py_tup (t d hd)
  · refine PySem.W.SortsAt.data em hal (.inr fun x hx => ?_) hub
    obtain ⟨d, hd, rfl⟩ := List.mem_map.mp hx
    have ht : isTup d = false := by
      cases q : isTup d with
      | false => rfl
      | true => exact absurd (fun e he => by rw [← like_tup (c.like d hd e he)]; exact q) t
    exact ⟨py_ne_none (c.non d hd), py_nontup ht⟩
def gSorted : D → Option PR
  | .lst ds => if canSort ds then some (.o (.l (sortD ds))) else none
  | .tup ds => if canSort ds then some (.o (.l (sortD ds))) else none
  | _ => none
theorem okL_of {ds : List D} {n : Nat} : (∀ d ∈ ds, d.ok n = true) → D.okL ds n = true := by
  induction ds with
  | nil => intro _; rfl
  | cons d ds ih =>
    intro h
    simp only [D.okL, Bool.and_eq_true]
    exact ⟨h d (List.mem_cons_self ..), ih fun e he => h e (List.mem_cons_of_mem _ he)⟩
/-- a value that stands for d -/
def Stands (K : PySem.W.Frag) (F : Hp) (v : Value) (d : D) : Prop := ∃ x : V, RelV x v ∧ Rep K F x d
theorem each_stands {K : PySem.W.Frag} {F : Hp} : ∀ {xs : List V} {us : List Value} {ds : List D}, Vals xs us → RepL K F xs ds → PySem.W.EachIs (Stands K F) us ds
  | _, _, _, .nil, .nil => .nil
  | _, _, _, .cons r t, .cons h q => .cons ⟨_, r, h⟩ (each_stands t q)
theorem stands_each {K : PySem.W.Frag} {F : Hp} : ∀ {us : List Value} {ds : List D}, PySem.W.EachIs (Stands K F) us ds → ∃ xs : List V, Vals xs us ∧ RepL K F xs ds
  | _, _, .nil => ⟨[], .nil, .nil⟩
  | _, _, .cons ⟨x, r, h⟩ t => by
    obtain ⟨xs, a, b⟩ := stands_each t
    exact ⟨x :: xs, .cons r a, .cons h b⟩
theorem each_keep {h h' : Heap} (k : ∀ b o, h.get? b = some o → h'.get? b = some o) : ∀ {us : List Value} {ds : List D}, PySem.W.EachIs (fun v d => ∃ as, Reads h v (D.py d) as) us ds → PySem.W.EachIs (fun v d => ∃ as, Reads h' v (D.py d) as) us ds
  | _, _, .nil => .nil
  | _, _, .cons ⟨as, r⟩ t => .cons ⟨as, Reads.keeps k r⟩ (each_keep k t)
section
variable {X : Cx}
theorem sorted_core (hu : X.A.units + 64 < cLine) {pins : List (Addr × Obj)} {s : Shared} {σ : St} {H F : Hp} {Q : VK} {l : Addr} {vs : List V} {its : List Value} {ds : List D} (I : Inv X pins σ H s) (sb : Sub F H) (rv : Vals vs its) (r1 : RepL X.K F vs ds)
    (hl : s.heap.IsList l its.toArray ∨ s.heap.IsTuple l its.toArray) (c : CanSort ds) (pw : PW X.K F H (.o (.l (sortD ds))) Q) : wpAny (model X.prog X.w) X.A (call (.builtin "sorted") [.ref l]) (EP X pins σ Q) X.xe s := by
  obtain ⟨as, ra⟩ := Dp.readsAll I (D.pyL ds) vs its (r1.dp sb (okL_of c.ok)) rv
  have er := each_reads ra
  have hlen : its.length = ds.length := by rw [← rv.length, r1.length]
  have hz : its.length ≤ sizeLine := by rw [hlen]; exact lim_ok c.len
  have k : ∀ b o, s.heap.get? b = some o → (PySem.W.sortingHeap (PySem.W.copyHeap s.heap its) (s.heap.objs.size + 1) its).get? b = some o := fun b o e => PySem.W.sorting_copy_old e
  have er2 := each_keep k er
  have hal : PySem.W.AllAlike (ds.map D.py) := fun x hx y hy => by
    obtain ⟨d, hd, rfl⟩ := List.mem_map.mp hx
    obtain ⟨e, he, rfl⟩ := List.mem_map.mp hy
    exact D.like_py d e (c.like d hd e he)
  refine sorted_seq hl hz (sorts_D (s := { s with heap := PySem.W.sortingHeap (PySem.W.copyHeap s.heap its) (s.heap.objs.size + 1) its }) c er2 (by show X.A.units + 1 + 1 + 61 < cLine; omega)) ?_
  have out := PySem.W.sortVals_data (R := Stands X.K F) false (each_stands rv r1) er2 hal
  rw [show ds.mergeSort (PySem.W.dataLe false D.py) = sortD ds from merge_eq c.like] at out
  obtain ⟨xs, v1, v2⟩ := stands_each out
  generalize PySem.W.sortVals _ false its its = ov at out v1 ⊢
  obtain ⟨ep, he⟩ := sortedAll_at s.heap its ov.toArray
  have hxl : xs.length ≤ sizeLine := by rw [v2.length, (sortD_perm ds).length_eq]; exact lim_ok c.len
  exact ⟨.ref _, upd H (s.heap.objs.size + 1) (.lst xs), I.laid (t' := s.toks) (fun _ _ => sortedAll_old) (Nat.le_succ _) ⟨hxl, ov, ep, v1, he⟩, rfl, pw.lst sb v2 _ (I.hok.fresh (Nat.le_succ _))⟩
theorem cr_sortedU (hu : X.A.units + 64 < cLine) : CallR X (.builtin "sorted") (rC X.K (g1 gSorted)) := by
  intro pins s σ H xs us Q I rs ⟨F, ds, r, sb, n, hg, pw⟩
  obtain ⟨d, rfl, hg⟩ := g1_some hg
  obtain ⟨x, rfl, n1⟩ := n.one
  cases d with
  | lst ds =>
    unfold gSorted at hg
    obtain ⟨c, rfl⟩ := ite_some hg
    obtain ⟨a, vs, rfl, ha, r1⟩ := n1.lst sb
    obtain ⟨its, rv, pl, _⟩ := I.list (.inl (.of ha))
    rw [Vals.ref1 rs]
    exact sorted_core hu I sb rv r1 (.inl pl.isList) (canSort_of c) pw
  | tup ds =>
    unfold gSorted at hg
    obtain ⟨c, rfl⟩ := ite_some hg
    obtain ⟨a, vs, rfl, ha, r1⟩ := n1.tup sb
    obtain ⟨its, rv, pl, _⟩ := I.tuple (.inl (.of ha))
    rw [Vals.ref1 rs]
    exact sorted_core hu I sb rv r1 (.inr pl) (canSort_of c) pw
  | _ => cases hg
end
end U
end

section
set_option Elab.async false
set_option linter.all false
set_option maxRecDepth 100000
/-! sets of nested tuples -/
namespace U
open PySem PySem.Spec PyProof.Rows L2
abbrev NK := NestedKey
abbrev IsN (h : Heap) (k : NK) (a : Addr) : Prop := NestedIs h k (.ref a) ∧ k.depth ≤ 8
section
variable {P : Program} {w : World} {A : Around} {E : Value → Shared → Prop} {s : Shared}
theorem loop_false {f : Value → Sem Bool} : ∀ (vs : List Value) {Q : Option Bool × PUnit → Shared → Prop}, (∀ v ∈ vs, ∀ (R : Bool → Shared → Prop), R false s → wpAny (model P w) A (f v) R E s) → Q (none, ⟨⟩) s →
    wpAny (model P w) A (forIn vs (none, ⟨⟩) fun y r => do if ← f y then pure (ForInStep.done (some true, ⟨⟩)) else pure (ForInStep.yield (none, ⟨⟩))) Q E s
  | [], Q, _, h => by rw [List.forIn_nil]; exact wpAny_pure h
  | v :: vs, Q, hf, h => by
    rw [List.forIn_cons]
    refine wpAny_bind (wpAny_bind (hf v (List.mem_cons_self ..) _ ?_))
    simp only [Bool.false_eq_true, if_false]
    exact wpAny_pure (loop_false vs (fun u hu => hf u (List.mem_cons_of_mem _ hu)) h)
mutual
theorem ofA_key : ∀ (k : NK) (v : Value) (n : Nat) (R : Bool → Shared → Prop), NestedIs s.heap k v → k.depth ≤ n → R false s → wpAny (model P w) A (ofAClassStatement n v) R E s
  | .none, _, n, R, h, _, q => by cases h; cases n <;> exact wpAny_pure q
  | .num i, _, n, R, h, _, q => by cases h <;> cases n <;> exact wpAny_pure q
  | .text x, _, n, R, h, _, q => by cases h; cases n <;> exact wpAny_pure q
  | .tup ks, _, n, R, h, hd, q => by
    cases h with
    | @tup b o vs m _ ho hc hs hk =>
      have e1 : NestedKey.depth (.tup ks) = NestedKey.depthAll ks + 1 := by simp only [NestedKey.depth]
      rw [e1] at hd
      obtain ⟨n, rfl⟩ : ∃ m, n = m + 1 := ⟨n - 1, by omega⟩
      unfold ofAClassStatement
      refine wpAny_bind (wpAny_typeOf (T := "tuple") ⟨o, ho, hc⟩ ?_)
      dsimp only
      simp only [show (("tuple" : String) == "tuple") = true from by decide, if_true]
      first | refine wpAny_bind (wpAny_pure ?_) | skip
      simp only [Bool.not_true, Bool.false_eq_true, if_false]
      first | refine wpAny_bind (wpAny_seqItems ho hs ?_) | (show wpAny _ _ (seqItems? (.ref b) >>= _) _ _ s; refine wpAny_bind (wpAny_seqItems ho hs ?_))
      dsimp only
      refine wpAny_bind ?_
      show wpAny _ _ (forIn vs _ _) _ _ s
      rw [← Array.forIn_toList]
      refine loop_false vs.toList (fun v hv R' q' => ?_) ?_
      · exact ofA_keys ks vs.toList n hk (by omega) v hv R' q'
      · dsimp only
        exact wpAny_pure q
theorem ofA_keys : ∀ (ks : List NK) (vs : List Value) (n : Nat), NestedAll s.heap ks vs → NestedKey.depthAll ks ≤ n → ∀ v ∈ vs, ∀ (R : Bool → Shared → Prop), R false s → wpAny (model P w) A (ofAClassStatement n v) R E s
  | [], _, n, h, _ => by cases h; intro v hv; cases hv
  | k :: ks, _, n, h, hd => by
    cases h with
    | cons h1 h2 =>
      have e : NestedKey.depthAll (k :: ks) = max k.depth (NestedKey.depthAll ks) := by simp only [NestedKey.depthAll]
      rw [e] at hd
      intro v hv R q
      rcases List.mem_cons.mp hv with rfl | hv
      · exact ofA_key k _ n R h1 (by omega) q
      · exact ofA_keys ks _ n h2 (by omega) v hv R q
end
/-- hashByValue tells one of both -/
theorem loop_any {f : Value → Sem Bool} : ∀ (vs : List Value) {Q : Option Bool × PUnit → Shared → Prop}, (∀ v ∈ vs, ∀ (R : Bool → Shared → Prop), (∀ b, R b s) → wpAny (model P w) A (f v) R E s) → Q (none, ⟨⟩) s → Q (some false, ⟨⟩) s →
    wpAny (model P w) A (forIn vs (none, ⟨⟩) fun y r => do if !(← f y) then pure (ForInStep.done (some false, ⟨⟩)) else pure (ForInStep.yield (none, ⟨⟩))) Q E s
  | [], Q, _, h, _ => by rw [List.forIn_nil]; exact wpAny_pure h
  | v :: vs, Q, hf, h, h' => by
    rw [List.forIn_cons]
    refine wpAny_bind (wpAny_bind (hf v (List.mem_cons_self ..) _ fun b => ?_))
    cases b with
    | true =>
      simp only [Bool.not_true, Bool.false_eq_true, if_false]
      exact wpAny_pure (loop_any vs (fun u hu => hf u (List.mem_cons_of_mem _ hu)) h h')
    | false =>
      simp only [Bool.not_false, if_true]
      exact wpAny_pure (wpAny_pure h')
mutual
theorem hbv_key : ∀ (k : NK) (v : Value) (n : Nat) (R : Bool → Shared → Prop), NestedIs s.heap k v → (∀ b, R b s) → wpAny (model P w) A (hashByValue n v) R E s
  | .none, _, n, R, h, q => by cases h; cases n <;> exact wpAny_pure (q _)
  | .num i, _, n, R, h, q => by cases h <;> cases n <;> exact wpAny_pure (q _)
  | .text x, _, n, R, h, q => by cases h; cases n <;> exact wpAny_pure (q _)
  | .tup ks, _, n, R, h, q => by
    cases h with
    | @tup b o vs m _ ho hc hs hk =>
      cases n with
      | zero => exact wpAny_pure (q _)
      | succ n =>
        unfold hashByValue
        refine wpAny_bind (wpAny_specialOf (T := "tuple") ⟨o, ho, hc⟩ F.slot_tuple_hash.lookup ?_)
        show wpAny _ _ (seqItems? (.ref b) >>= _) _ _ s
        refine wpAny_bind (wpAny_seqItems ho hs (wpAny_bind ?_))
        show wpAny _ _ (forIn vs _ _) _ _ s
        rw [← Array.forIn_toList]
        refine loop_any vs.toList (fun v hv R' q' => hbv_keys ks vs.toList n hk v hv R' q') ?_ ?_
        · exact wpAny_pure (q _)
        · exact wpAny_pure (q _)
theorem hbv_keys : ∀ (ks : List NK) (vs : List Value) (n : Nat), NestedAll s.heap ks vs → ∀ v ∈ vs, ∀ (R : Bool → Shared → Prop), (∀ b, R b s) → wpAny (model P w) A (hashByValue n v) R E s
  | [], _, n, h => by cases h; intro v hv; cases hv
  | k :: ks, _, n, h => by
    cases h with
    | cons h1 h2 =>
      intro v hv R q
      rcases List.mem_cons.mp hv with rfl | hv
      · exact hbv_key k _ n R h1 q
      · exact hbv_keys ks _ n h2 v hv R q
end
end
end U
end

section
set_option Elab.async false
set_option linter.all false
set_option maxRecDepth 100000
namespace U
open PySem PySem.Spec PyProof.Rows L2
abbrev hN (w : World) (k : NK) : Int := k.hash w
def rowsN (w : World) (L : List (Addr × NK)) : List (Int × Value) := L.map fun p => (hN w p.2, Value.ref p.1)
/-- the set at a holds the tuples L -/
structure SetN (w : World) (h : Heap) (a : Addr) (L : List (Addr × NK)) (es : Array (Int × Value)) (ep : Nat) (t : SetTable) : Prop where
  ob : ∃ o, h.get? a = some o ∧ o.ExactSet ∧ o.data = .set es ep t
  rows : es.toList = rowsN w L
  tab : TabOk t (L.map fun p => hN w p.2)
  nd : (L.map (·.2)).Nodup
  key : ∀ p ∈ L, IsN h p.2 p.1
  led : w.params.followText "set-order" = true ∨ t.led = true
  room : L.length * 5 < t.mask * 3
  few : L.length < 64
section
variable {P : Program} {w : World} {A : Around} {E : Value → Shared → Prop} {s : Shared}
theorem seen_key {k : NK} {b : Addr} {Q : Bool → Shared → Prop} (hk : IsN s.heap k b) : ∀ {ys : List Value}, (∀ y ∈ ys, ∃ k' c, y = Value.ref c ∧ IsN s.heap k' c) → Q false s → wpAny (model P w) A (searchCouldBeSeen (.ref b) ys) Q E s := by
  intro ys hy h
  unfold searchCouldBeSeen
  refine wpAny_bind (wpAny_forIn_list _ (fun rest r s' => r.1 = none ∧ s' = s ∧ ∀ y ∈ rest, ∃ k' c, y = Value.ref c ∧ IsN s.heap k' c) _ ?_ ?_ _ _ ⟨rfl, rfl, hy⟩)
  · rintro v rest r s' ⟨hr, rfl, hall⟩
    obtain ⟨k', c, rfl, hc⟩ := hall v List.mem_cons_self
    have more : ∀ y ∈ rest, ∃ k' c, y = Value.ref c ∧ IsN s'.heap k' c := fun u hu => hall u (List.mem_cons_of_mem _ hu)
    dsimp only
    by_cases hv : (b == c || (carriedByValue (.ref b) && carriedByValue (.ref c))) = true
    · exact wp_if_pos hv (wpAny_pure ⟨rfl, rfl, more⟩)
    · refine wp_if_neg hv (wpAny_bind (quiet_key k _ 8 _ hk.1 hk.2 A E _ ?_))
      simp only [Bool.not_true, Bool.false_eq_true, if_false]
      refine wpAny_bind (quiet_key k' _ 8 _ hc.1 hc.2 A E _ ?_)
      simp only [Bool.not_true, Bool.false_eq_true, if_false]
      refine wpAny_bind (ofA_key k _ 8 _ hk.1 hk.2 ?_)
      simp only [Bool.false_eq_true, if_false]
      refine wpAny_bind (ofA_key k' _ 8 _ hc.1 hc.2 ?_)
      simp only [Bool.false_eq_true, if_false]
      exact wpAny_pure ⟨rfl, rfl, more⟩
  · rintro ⟨r1, r2⟩ s' ⟨hr, rfl, _⟩
    simp only at hr
    subst hr
    exact wpAny_pure h
variable {a : Addr} {L : List (Addr × NK)} {es : Array (Int × Value)} {ep : Nat} {t : SetTable}
theorem rowsN_len {L : List (Addr × NK)} {es : Array (Int × Value)} (h : es.toList = rowsN w L) : es.size = L.length := by
  have q := congrArg List.length h
  unfold rowsN at q
  rwa [Array.length_toList, List.length_map] at q
theorem SetN.size (R : SetN w s.heap a L es ep t) : es.size = L.length := rowsN_len R.rows
theorem fits_of {hs : List Int} {t : SetTable} {n : Nat} (T : TabOk t hs) (hn : hs.length = n) (hm : n ≤ t.mask) : t.fits n = true := by
  have z := T.sz
  unfold SetTable.fits SetTable.fill
  rw [T.dm, Bool.and_eq_true, beq_iff_eq, decide_eq_true_eq]
  show t.place.size = n ∧ t.place.size + 0 ≤ t.mask
  omega
theorem SetN.fits (R : SetN w s.heap a L es ep t) : t.fits es.size = true := by
  have := R.room
  refine fits_of R.tab (by rw [List.length_map, R.size]) (by rw [R.size]; omega)
theorem SetN.entry (R : SetN w s.heap a L es ep t) {i : Nat} {p : Addr × NK} (h : L[i]? = some p) : es[i]? = some (hN w p.2, Value.ref p.1) := by
  rw [← Array.getElem?_toList, R.rows]
  unfold rowsN
  rw [List.getElem?_map, h]; rfl
theorem SetN.gw (R : SetN w s.heap a L es ep t) : ¬ t.gaveWay = true := by
  unfold SetTable.gaveWay
  rw [mask_odd R.tab.mok]; decide
abbrev st0 (t : SetTable) (h : Int) : SetTable.Probe := runAt t.mask (SetTable.bits h % (t.mask + 1)) (SetTable.bits h)
theorem nth_nodummy (m : Nat) : ∀ (n : Nat) (p : SetTable.Probe), p.dummy = none → (nth m p n).dummy = none
  | 0, p, h => h
  | n + 1, p, h => nth_nodummy m n (adv m p) (by unfold adv; split <;> exact h)
/-- the search, from its c-th step on -/
theorem look_from (R : SetN w s.heap a L es ep t) {x : Addr} {k : NK} (hx : IsN s.heap k x) (hu : A.units + 8 < cLine) {K : Nat} (hKf : K < 10 * SetTable.turns t.mask)
    (hK : way t.mask (hN w k) K ∉ t.place.toList) (hKb : ∀ c, c < K → way t.mask (hN w k) c ∈ t.place.toList) {Q : SetFound → Shared → Prop}
    (hin : k ∈ L.map (·.2) → Q (.there none) s) (hout : k ∉ L.map (·.2) → Q (.free (way t.mask (hN w k) K) false) s) :
    ∀ (f c : Nat) (stand : Option SetTable.Probe), stand.getD (t.probeStart (hN w k)) = nth t.mask (st0 t (hN w k)) c → c ≤ K → K - c < f →
      (∀ (i : Nat) p, L[i]? = some p → p.2 = k → ∃ c', c ≤ c' ∧ c' < K ∧ t.place.toList[i]? = some (way t.mask (hN w k) c')) → wpAny (model P w) A (setSearchFrom a (.ref x) (hN w k) true f stand) Q E s
  | 0, c, stand, _, _, hf, _ => absurd hf (Nat.not_lt_zero _)
  | f + 1, c, stand, hst, hc, hf, hre => by
    obtain ⟨o, ho, hex, hd⟩ := R.ob
    rw [setSearchFrom_succ]
    refine wpAny_bind (wpAny_setState_of ho hd R.fits ?_)
    dsimp only
    refine wp_if_neg R.gw ?_
    try refine wpAny_bind (wpAny_pure ?_)
    have nod : (nth t.mask (st0 t (hN w k)) c).dummy = none := nth_nodummy t.mask c _ rfl
    have e1 : ∀ q, (nth t.mask (nth t.mask (st0 t (hN w k)) c) q).j = way t.mask (hN w k) (c + q) := fun q => congrArg SetTable.Probe.j (nth_add t.mask c _ q).symm
    have spec := go_spec t R.tab.ris R.tab.dm (fun i => (es[i]?.map (·.1)).getD 0) (hN w k) (10 * SetTable.turns t.mask) (K - c) _ nod (by omega) (fun q hq => by rw [e1]; exact hKb (c + q) (by omega)) (by rw [e1, show c + (K - c) = K by omega]; exact hK)
    have hashAt : ∀ (i : Nat) p, L[i]? = some p → (fun i => (es[i]?.map (·.1)).getD 0) i = hN w p.2 := fun i p hp => by
      show (es[i]?.map (·.1)).getD 0 = _
      rw [R.entry hp]; rfl
    rcases spec with ⟨q, i, hq, hi, hh, hno, hpr⟩ | ⟨hno, hpr⟩
    · have hpr' : t.probe (fun i => (es[i]?.map (·.1)).getD 0) (hN w k) (stand.getD (t.probeStart (hN w k))) = some (.candidate (way t.mask (hN w k) (c + q)) i (nth t.mask (st0 t (hN w k)) (c + (q + 1)))) := by
        rw [hst, ← e1, nth_add]
        exact hpr
      rw [hpr']
      dsimp only
      rw [e1] at hi
      have hil : i < L.length := by
        have z1 : i < t.place.toList.length := (List.getElem?_eq_some_iff.mp hi).1
        have z2 := R.tab.sz
        rw [List.length_map] at z2
        rw [Array.length_toList] at z1
        omega
      have hp : L[i]? = some L[i] := List.getElem?_eq_getElem hil
      generalize L[i] = p at hp
      have hmem : p ∈ L := List.mem_of_getElem? hp
      have hpt := R.key p hmem
      have rest : wpAny (model P w) A (searchRest a (.ref x) (hN w k) true f es t (way t.mask (hN w k) (c + q)) i (nth t.mask (st0 t (hN w k)) (c + (q + 1)))) Q E s := by
        unfold searchRest
        rw [R.entry hp]
        dsimp only
        refine wpAny_bind (wpAny_holding ((nestedKind P w).eqBool hu hpt hx (wpAny_bind (wpAny_setState_of ho hd R.fits ?_))))
        dsimp only
        by_cases hkk : p.2 = k
        · exact wp_if_pos (by simp [hkk]) (wpAny_pure (hin (List.mem_map.mpr ⟨p, hmem, hkk⟩)))
        · refine wp_if_neg (by simp [hkk]) ?_
          try refine wpAny_bind (wpAny_pure ?_)
          rw [sameMem]
          dsimp only
          simp only [if_true, slot_live R.tab.ris hi, R.entry hp]
          refine wpAny_bind (wpAny_isSame_ref_self (wpAny_bind (wpAny_pure ?_)))
          simp only [if_true]
          refine wp_if_neg (by simp [hkk]) (look_from R hx hu hKf hK hKb hin hout f (c + (q + 1)) _ rfl (by omega) (by omega) fun i0 p0 h0 hk0 => ?_)
          obtain ⟨c', a1, a2, a3⟩ := hre i0 p0 h0 hk0
          refine ⟨c', ?_, a2, a3⟩
          have hne : c' ≠ c + q := fun ec => by
            rw [ec] at a3
            have same : i0 = i := by
              rcases Nat.lt_trichotomy i0 i with z | z | z
              · exact absurd (ris_lt R.tab.ris a3 hi z) (Nat.lt_irrefl _)
              · exact z
              · exact absurd (ris_lt R.tab.ris hi a3 z) (Nat.lt_irrefl _)
            rw [same, hp] at h0
            exact hkk ((congrArg Prod.snd (Option.some.inj h0)).trans hk0)
          have hnl : ¬ c' < c + q := fun z => hno (c' - c) i0 (by omega) (by rw [e1, show c + (c' - c) = c' by omega]; exact a3) ((hashAt i0 p0 h0).trans (congrArg (hN w) hk0))
          omega
      by_cases hled : t.led = true
      · refine wp_if_neg (by simp [hled]) ?_
        first | exact rest | exact wpAny_bind (wpAny_pure rest)
      · have seen : wpAny (model P w) A (searchCouldBeSeen (.ref x) ((es.filter (·.1 == hN w k)).toList.map (·.2))) (fun b s' => b = false ∧ s' = s) E s := by
          refine seen_key hx (fun y hy => ?_) ⟨rfl, rfl⟩
          obtain ⟨e, he, rfl⟩ := List.mem_map.mp hy
          have he2 : e ∈ es.toList := by
            rw [Array.toList_filter] at he
            exact (List.mem_filter.mp he).1
          rw [R.rows] at he2
          obtain ⟨p', hp', rfl⟩ := List.mem_map.mp he2
          exact ⟨p'.2, p'.1, rfl, R.key p' hp'⟩
        first
          | (refine wp_if_pos (by simp [hled]) (wpAny_bind (wpAny_mono seen (fun b s' hb => ?_) fun _ _ z => z)); obtain ⟨rfl, rfl⟩ := hb; refine wp_if_neg (by simp) ?_; first | exact rest | exact wpAny_bind (wpAny_pure rest))
          | (refine wpAny_bind (wp_if_pos (by simp [hled]) (wpAny_bind (wpAny_mono seen (fun b s' hb => ?_) fun _ _ z => z))); obtain ⟨rfl, rfl⟩ := hb; refine wp_if_neg (by simp) ?_; exact wpAny_pure rest)
    · have hpr' : t.probe (fun i => (es[i]?.map (·.1)).getD 0) (hN w k) (stand.getD (t.probeStart (hN w k))) = some (.empty (way t.mask (hN w k) K) none) := by
        rw [hst]
        have z := e1 (K - c)
        rw [show c + (K - c) = K by omega] at z
        rw [← z]
        exact hpr
      rw [hpr']
      dsimp only
      refine wpAny_pure (hout fun hm => ?_)
      obtain ⟨p, hp, hk⟩ := List.mem_map.mp hm
      obtain ⟨i, hi⟩ := List.mem_iff_getElem?.mp hp
      obtain ⟨c', a1, a2, a3⟩ := hre i p hi hk
      exact hno (c' - c) i (by omega) (by rw [e1, show c + (c' - c) = c' by omega]; exact a3) ((hashAt i p hi).trans (congrArg (hN w) hk))
theorem look_at (R : SetN w s.heap a L es ep t) {x : Addr} {k : NK} (hx : IsN s.heap k x) (hu : A.units + 8 < cLine) {Q : SetFound → Shared → Prop} (hin : k ∈ L.map (·.2) → Q (.there none) s)
    (hout : ∀ K, k ∉ L.map (·.2) → way t.mask (hN w k) K ∉ t.place.toList → (∀ c, c < K → way t.mask (hN w k) c ∈ t.place.toList) → Q (.free (way t.mask (hN w k) K) false) s) : wpAny (model P w) A (setSearch a (.ref x) (hN w k) true) Q E s := by
  have hroom := R.room
  obtain ⟨K, hKf, hK, hKb⟩ := R.tab.first (by rw [List.length_map]; omega) (hN w k)
  have hbig : K < 100000 := by
    have : 10 * SetTable.turns t.mask ≤ 1420 := by
      unfold SetTable.turns
      rcases R.tab.mok with e | e | e <;> omega
    omega
  unfold setSearch
  refine look_from R hx hu hKf hK hKb hin (fun hn => hout K hn hK hKb) 100000 0 none rfl (Nat.zero_le _) (by omega) fun i p hp hk => ?_
  have hi : (L.map fun p => hN w p.2)[i]? = some (hN w k) := by rw [List.getElem?_map, hp, ← hk]; rfl
  have hil : i < t.place.toList.length := by
    have z1 : i < L.length := (List.getElem?_eq_some_iff.mp hp).1
    have z2 := R.tab.sz
    rw [List.length_map] at z2
    rw [Array.length_toList]; omega
  have hj := List.getElem?_eq_getElem hil
  obtain ⟨c, hc, e⟩ := R.tab.before hK hi hj
  exact ⟨c, Nat.zero_le _, hc, by rw [hj, e]⟩
end
end U
end

section
set_option Elab.async false
set_option linter.all false
set_option maxRecDepth 100000
namespace U
open PySem PySem.Spec PyProof.Rows L2
section
variable {P : Program} {w : World} {A : Around} {E : Value → Shared → Prop} {s : Shared}
theorem isN_same {h h' : Heap} {k : NK} {a b : Addr} {o : Obj} {es : Array (Int × Value)} {ep : Nat} {t : SetTable} (hb : IsN h k b) (ho : h.get? a = some o) (hd : o.data = .set es ep t) (hs : Heap.SameBut a h h') : IsN h' k b :=
  ⟨NestedIs.at (fun c oc vs n hc hq => (hs.2 c fun e => by
    subst e
    rw [ho] at hc
    cases hc
    rw [hd] at hq
    cases hq).trans hc) k _ hb.1, hb.2⟩
theorem isN_keep {h h' : Heap} {k : NK} {b : Addr} (x : IsN h k b) (hk : ∀ c o, h.get? c = some o → h'.get? c = some o) : IsN h' k b := ⟨NestedIs.at (fun c o _ _ hc _ => hk c o hc) k _ x.1, x.2⟩
theorem order_N (L : List (Addr × NK)) (es : Array (Int × Value)) (order : Array Nat) (hr : es.toList = rowsN w L) (hp : order.toList.Perm (List.range L.length)) :
    ∃ M, (order.filterMap (es[·]?)).toList = rowsN w M ∧ M.Perm L ∧ (M.map fun p => hN w p.2) = order.toList.map fun i => (es.map (·.1)).getD i 0 := by
  have hsz := rowsN_len hr
  have ent : ∀ i (h : i < L.length), es[i]? = some (hN w (L[i]).2, Value.ref (L[i]).1) := fun i h => by
    rw [← Array.getElem?_toList, hr]
    unfold rowsN
    rw [List.getElem?_map, List.getElem?_eq_getElem h]; rfl
  have key : ∀ l : List Nat, (∀ i ∈ l, i < L.length) → l.filterMap (fun i => es[i]?) = rowsN w (l.filterMap fun i => L[i]?) ∧ ((l.filterMap fun i => L[i]?).map fun p => hN w p.2) = l.map fun i => (es.map (·.1)).getD i 0 := by
    intro l
    induction l with
    | nil => intro _; exact ⟨rfl, rfl⟩
    | cons i l ih =>
      intro hl
      have hi := hl i List.mem_cons_self
      obtain ⟨e1, e2⟩ := ih fun j hj => hl j (List.mem_cons_of_mem _ hj)
      have e5 : (es.map (·.1))[i]? = some (hN w (L[i]).2) := by rw [Array.getElem?_map, ent i hi]; rfl
      rw [List.filterMap_cons_some (ent i hi), List.filterMap_cons_some (List.getElem?_eq_getElem hi), e1, List.map_cons, List.map_cons, e2]
      exact ⟨rfl, by simp [Array.getD_eq_getD_getElem?, e5]⟩
  obtain ⟨e1, e3⟩ := key order.toList fun i hi => List.mem_range.mp (hp.mem_iff.mp hi)
  refine ⟨_, by first | (rw [Array.toList_filterMap]; exact e1) | simpa using e1, ?_, e3⟩
  have z : (List.range L.length).filterMap (fun i => L[i]?) = L := PySem.List.filterMap_getElem?_range_length L
  have q := hp.filterMap fun i => L[i]?
  rwa [z] at q
variable {a : Addr} {L : List (Addr × NK)} {es : Array (Int × Value)} {ep : Nat} {t : SetTable}
theorem relay_N {o : Obj} (ho : s.heap.get? a = some o) (hex : o.ExactSet) (hd : o.data = .set es ep t) (hrows : es.toList = rowsN w L) (T0 : TabOk t (L.map fun p => hN w p.2)) (hfl : L.length ≤ t.mask)
    (nd : (L.map (·.2)).Nodup) (kk : ∀ p ∈ L, IsN s.heap p.2 p.1) (ld : w.params.followText "set-order" = true ∨ t.led = true) (few : L.length < 64) {wanted M : Nat}
    (hw : SetTable.sizeAbove wanted - 1 = M) (hM : MaskOk M) (hw2 : SetTable.sizeAbove wanted ≤ 128) (hn : L.length * 5 < M * 3) {Q : Unit → Shared → Prop}
    (hQ : ∀ h' L' es' ep' t', Heap.SameBut a s.heap h' → SetN w h' a L' es' ep' t' → L'.Perm L → Q () { s with heap := h' }) : wpAny (model P w) A (setRelay a wanted) Q E s := by
  have hsl := rowsN_len hrows
  have hfits : t.fits es.size = true := fits_of T0 (by rw [List.length_map, hsl]) (by omega)
  obtain ⟨t', order, e, hp, T, em, el, _, ed⟩ := relaid_ok t (hs := es.map (·.1)) (wanted := wanted) hw hM (by rw [Array.size_map, hsl]; omega)
  rw [Array.size_map, hsl] at hp
  obtain ⟨L2, r1, r2, r3⟩ := order_N L es order hrows hp
  rw [← r3] at T
  have hs2 : (order.filterMap (es[·]?)).size = es.size := by rw [rowsN_len r1, r2.length_eq, hsl]
  rw [setRelay_eq]
  refine wpAny_bind (wpAny_setState_of ho hd hfits ?_)
  dsimp only
  refine wp_if_neg (by rw [sizeLine_eq]; omega) ?_
  try refine wpAny_bind (wpAny_pure ?_)
  rw [e]
  dsimp only
  refine wpAny_bind (wp_if_neg (by rw [hs2]; simp) ?_)
  try refine wpAny_bind (wpAny_pure ?_)
  refine wpAny_pure ?_
  dsimp only
  refine wpAny_storeSet_of ho hd ?_ (by rw [hs2, hsl, sizeLine_eq]; omega)
  have sb : Heap.SameBut a s.heap (s.heap.update a (Obj.putSet (order.filterMap (es[·]?)) t')) := Heap.SameBut.update ..
  exact hQ _ L2 _ (ep + 1) t' sb ⟨⟨_, store_at ho hd, ⟨hex.1, hex.2.1, hex.2.2⟩, rfl⟩, r1, T, (r2.map (·.2)).nodup_iff.mpr nd, fun p hpm => isN_same (kk p (r2.mem_iff.mp hpm)) ho hd sb, by rw [el]; exact ld, by rw [r2.length_eq, em]; exact hn, by rw [r2.length_eq]; exact few⟩ r2
theorem tab_plain {hs : List Int} {b : Bool} (T : TabOk t hs) : TabOk { t with plain := b } hs := ⟨T.ris, T.dm, T.sz, T.mok, T.bd, T.reach⟩
/-- what is left once the slot is found -/
theorem put_N {o : Obj} {x : Addr} {k : NK} (R : SetN w s.heap a L es ep t) (ho : s.heap.get? a = some o) (hex : o.ExactSet) (hd : o.data = .set es ep t) (hx : IsN s.heap k x) (hfew : L.length + 1 < 64) (hm : k ∉ L.map (·.2)) {t1 : SetTable} {p : Nat}
    (hin : (SetTable.insertAt es p (hN w k, Value.ref x)).toList = rowsN w (L.take p ++ (x, k) :: L.drop p)) (T : TabOk t1 ((L.take p ++ (x, k) :: L.drop p).map fun p => hN w p.2)) (em : t1.mask = t.mask) (el : t1.led = t.led) (ef : t1.fill = L.length + 1)
    {Q : Bool → Shared → Prop} (hQ : ∀ b h' L' es' ep' t', Heap.SameBut a s.heap h' → SetN w h' a L' es' ep' t' → L'.Perm ((x, k) :: L) → Q b { s with heap := h' }) :
    wpAny (model P w) A (do
      storeSet a (SetTable.insertAt es p (hN w k, Value.ref x)) t1
      if (!false && t1.tooFull) = true then setRelay a (SetTable.grown (es.size + 1))
      return true) Q E s := by
  have hsl := R.size
  have hroom := R.room
  have pm : (L.take p ++ (x, k) :: L.drop p).Perm ((x, k) :: L) := put_perm L p (x, k)
  have hlen : (L.take p ++ (x, k) :: L.drop p).length = L.length + 1 := pm.length_eq
  have nd1 : ((L.take p ++ (x, k) :: L.drop p).map (·.2)).Nodup := (pm.map (·.2)).nodup_iff.mpr (by rw [List.map_cons]; exact List.nodup_cons.mpr ⟨hm, R.nd⟩)
  have hes : (SetTable.insertAt es p (hN w k, Value.ref x)).size = L.length + 1 := by rw [rowsN_len hin, hlen]
  generalize SetTable.insertAt es p (hN w k, Value.ref x) = es1 at hin hes ⊢
  generalize L.take p ++ (x, k) :: L.drop p = L1 at pm hlen T nd1 hin
  refine wpAny_bind (wpAny_storeSet_of ho hd ?_ (by rw [hes, sizeLine_eq]; omega))
  have sb : Heap.SameBut a s.heap (s.heap.update a (Obj.putSet es1 t1)) := Heap.SameBut.update ..
  have ho1 := store_at (es' := es1) (t' := t1) ho hd
  generalize s.heap.update a (Obj.putSet es1 t1) = h1 at sb ho1 ⊢
  have key1 : ∀ p ∈ L1, IsN h1 p.2 p.1 := fun p hp => by
    rcases List.mem_cons.mp (pm.mem_iff.mp hp) with e | hp
    · rw [e]; exact isN_same hx ho hd sb
    · exact isN_same (R.key p hp) ho hd sb
  have ld1 : w.params.followText "set-order" = true ∨ t1.led = true := by rw [el]; exact R.led
  by_cases hf : t1.tooFull = true
  · have hfull : (L.length + 1) * 5 ≥ t1.mask * 3 := by
      have h := hf
      unfold SetTable.tooFull at h
      rwa [decide_eq_true_eq, ef] at h
    have two : (t.mask = 7 ∧ L.length = 4) ∨ (t.mask = 31 ∧ L.length = 18) := by
      rcases R.tab.mok with e | e | e
      · left; rw [em, e] at hfull; rw [e] at hroom; exact ⟨e, by omega⟩
      · right; rw [em, e] at hfull; rw [e] at hroom; exact ⟨e, by omega⟩
      · exfalso; rw [em, e] at hfull; omega
    have go : ∀ M, SetTable.sizeAbove (SetTable.grown (L.length + 1)) - 1 = M → MaskOk M → SetTable.sizeAbove (SetTable.grown (L.length + 1)) ≤ 128 → (L.length + 1) * 5 < M * 3 →
        wpAny (model P w) A (setRelay a (SetTable.grown (es.size + 1))) (fun _ s' => wpAny (model P w) A (pure true) Q E s') E { s with heap := h1 } := fun M z1 z2 z3 z4 => by
      rw [hsl]
      refine relay_N (s := { s with heap := h1 }) ho1 ⟨hex.1, hex.2.1, hex.2.2⟩ rfl hin T (by rw [hlen, em]; rcases two with ⟨e, e2⟩ | ⟨e, e2⟩ <;> omega) nd1 key1 ld1 (by rw [hlen]; exact hfew) z1 z2 z3 (by rw [hlen]; exact z4) ?_
      intro h2 L2 es2 ep2 t2 sb2 R2 pm2
      exact wpAny_pure (hQ true h2 L2 es2 ep2 t2 (sb.trans sb2) R2 (pm2.trans pm))
    have run : wpAny (model P w) A (setRelay a (SetTable.grown (es.size + 1))) (fun _ s' => wpAny (model P w) A (pure true) Q E s') E { s with heap := h1 } := by
      rcases two with ⟨_, e2⟩ | ⟨_, e2⟩
      · exact go 31 (by rw [e2, size_20]) (.inr (.inl rfl)) (by rw [e2, size_20]; decide) (by omega)
      · exact go 127 (by rw [e2, size_76]) (.inr (.inr rfl)) (by rw [e2, size_76]; decide) (by omega)
    first
      | exact wpAny_bind (wp_if_pos (by simp [hf]) run)
      | exact wp_if_pos (by simp [hf]) (wpAny_bind run)
  · have fin : Q true { s with heap := h1 } := hQ true h1 L1 es1 (ep + 1) t1 sb ⟨⟨_, ho1, ⟨hex.1, hex.2.1, hex.2.2⟩, rfl⟩, hin, T, nd1, key1, ld1, by
      have h := hf
      unfold SetTable.tooFull at h
      rw [decide_eq_true_eq, ef] at h
      rw [hlen]; omega, by rw [hlen]; exact hfew⟩ pm
    first
      | exact wp_if_neg (by simp [hf]) (wpAny_pure fin)
      | exact wpAny_bind (wp_if_neg (by simp [hf]) (wpAny_pure (wpAny_pure fin)))
/-- adding -/
theorem add_N (R : SetN w s.heap a L es ep t) {x : Addr} {k : NK} (hx : IsN s.heap k x) (hu : A.units + 8 < cLine) (hfew : k ∉ L.map (·.2) → L.length + 1 < 64) {Q : Bool → Shared → Prop}
    (hQ : ∀ b h' L' es' ep' t', Heap.SameBut a s.heap h' → SetN w h' a L' es' ep' t' → (k ∈ L.map (·.2) → L' = L) → (k ∉ L.map (·.2) → L'.Perm ((x, k) :: L)) → Q b { s with heap := h' }) :
    wpAny (model P w) A (setAddHashed a (.ref x) (hN w k)) Q E s := by
  obtain ⟨o, ho, hex, hd⟩ := R.ob
  unfold setAddHashed
  refine wpAny_holding ?_
  rw [show (100000 : Nat) = 99999 + 1 from rfl, setAddHashedIn_succ]
  refine wpAny_bind (wpAny_setState_of ho hd R.fits ?_)
  dsimp only
  refine wp_if_neg (by simp [byScan, Value.scannable]) ?_
  try refine wpAny_bind (wpAny_pure ?_)
  refine wpAny_bind (look_at R hx hu (fun hm => ?_) fun K hm hK hb => ?_)
  · dsimp only
    exact wpAny_pure (hQ false s.heap L es ep t (Heap.SameBut.refl a s.heap) R (fun _ => rfl) fun z => absurd hm z)
  · dsimp only
    refine wpAny_bind (wpAny_setState_of ho hd R.fits ?_)
    dsimp only
    obtain ⟨q1, q2, q3, q4, q5, q6, q7, q8, q9⟩ := R.tab.put hK hb
    generalize t.put (way t.mask (hN w k) K) = pt at q1 q3 q4 q5 q6 q7 q8 q9 ⊢
    obtain ⟨t1, p0⟩ := pt
    dsimp only at q1 q3 q4 q5 q6 q7 q8 q9 ⊢
    subst q1
    have hin : (SetTable.insertAt es (SetTable.below t.place (way t.mask (hN w k) K)) (hN w k, Value.ref x)).toList = rowsN w (L.take (SetTable.below t.place (way t.mask (hN w k) K)) ++ (x, k) :: L.drop (SetTable.below t.place (way t.mask (hN w k) K))) := by
      rw [SetTable.toList_insertAt, R.rows]
      unfold rowsN
      rw [List.map_append, List.map_cons, List.map_take, List.map_drop]
    generalize SetTable.below t.place (way t.mask (hN w k) K) = p at q2 q3 hin ⊢
    have hhs : (L.take p ++ (x, k) :: L.drop p).map (fun p => hN w p.2) = (L.map fun p => hN w p.2).take p ++ hN w k :: (L.map fun p => hN w p.2).drop p := by
      rw [List.map_append, List.map_cons, List.map_take, List.map_drop]
    rw [← hhs] at q3
    rw [List.length_map] at q9
    have go : ∀ b : Bool, wpAny (model P w) A (do
        storeSet a (SetTable.insertAt es p (hN w k, Value.ref x)) (if b = true then t1 else { t1 with plain := false })
        if (!false && (if b = true then t1 else { t1 with plain := false }).tooFull) = true then setRelay a (SetTable.grown (es.size + 1))
        return true) Q E s := fun b => by
      cases b with
      | true =>
        simp only [if_true]
        exact put_N R ho hex hd hx (hfew hm) hm hin q3 q4 q5 q9 fun b h' L' es' ep' t' sb R' pm => hQ b h' L' es' ep' t' sb R' (fun z => absurd z hm) fun _ => pm
      | false =>
        simp only [Bool.false_eq_true, if_false]
        exact put_N (t1 := { t1 with plain := false }) R ho hex hd hx (hfew hm) hm hin (tab_plain (b := false) q3) q4 q5 q9 fun b h' L' es' ep' t' sb R' pm => hQ b h' L' es' ep' t' sb R' (fun z => absurd z hm) fun _ => pm
    by_cases hp : t1.plain = true
    · first
        | (refine wpAny_bind ?_; refine wp_if_pos hp (hbv_key k _ 8 _ hx.1 fun b => ?_); exact go b)
        | exact wp_if_pos hp (wpAny_bind (hbv_key k _ 8 _ hx.1 fun b => go b))
    · first
        | (refine wpAny_bind ?_; refine wp_if_neg hp (wpAny_pure ?_); exact go true)
        | exact wp_if_neg hp (wpAny_bind (wpAny_pure (go true)))
end
end U
end

section
set_option Elab.async false
set_option linter.all false
set_option maxRecDepth 100000
namespace U
open PySem PySem.Spec PyProof.Rows L2
abbrev hK (P : Program) (w : World) (k : Key) : Int := (mixKind P w).hash k
/-- the set at a holds the keys L, carried by value -/
structure SetS (P : Program) (w : World) (h : Heap) (a : Addr) (L : List (Value × Key)) (es : Array (Int × Value)) (ep : Nat) (t : SetTable) : Prop where
  ob : ∃ o, h.get? a = some o ∧ o.ExactSet ∧ o.data = .set es ep t
  rows : es.toList = L.map fun p => (hK P w p.2, p.1)
  key : ∀ p ∈ L, (mixKind P w).is p.2 p.1 = true ∧ p.1.scannable = true
  nd : (L.map (·.2)).Nodup
  fits : t.fits es.size = true
  ris : Ris t.place.toList
  led : w.params.followText "set-order" = true ∨ t.led = true
  few : L.length < 64
section
variable {P : Program} {w : World} {A : Around} {E : Value → Shared → Prop} {s : Shared} {a : Addr} {L : List (Value × Key)} {es : Array (Int × Value)} {ep : Nat} {t : SetTable}
theorem rowsS_len {L : List (Value × Key)} {es : Array (Int × Value)} (h : es.toList = L.map fun p => (hK P w p.2, p.1)) : es.size = L.length := by
  have q := congrArg List.length h
  rwa [Array.length_toList, List.length_map] at q
theorem SetS.elems (R : SetS P w s.heap a L es ep t) : ElemsOf (mixKind P w) es.toList := fun e he => by
  rw [R.rows] at he
  obtain ⟨p, hp, rfl⟩ := List.mem_map.mp he
  exact ⟨⟨p.2, (R.key p hp).1, rfl⟩, (R.key p hp).2⟩
theorem perm_rows {L : List (Value × Key)} : ∀ {M : List (Int × Value)}, M.Perm (L.map fun p => (hK P w p.2, p.1)) → ∃ L' : List (Value × Key), M = L'.map (fun p => (hK P w p.2, p.1)) ∧ L'.Perm L := by
  intro M h
  generalize hl : L.map (fun p => (hK P w p.2, p.1)) = N at h
  induction h generalizing L with
  | nil =>
    have : L = [] := by simpa using hl
    exact ⟨[], rfl, by rw [this]⟩
  | @cons x l1 l2 _ ih =>
    cases L with
    | nil => cases hl
    | cons p L =>
      rw [List.map_cons] at hl
      injection hl with e1 e2
      obtain ⟨L', q1, q2⟩ := ih e2
      exact ⟨p :: L', by rw [List.map_cons, e1, q1], q2.cons p⟩
  | swap x y l =>
    match L, hl with
    | p :: q :: L, hl =>
      rw [List.map_cons, List.map_cons] at hl
      injection hl with e1 hl
      injection hl with e2 e3
      exact ⟨q :: p :: L, by rw [List.map_cons, List.map_cons, e1, e2, e3], .swap ..⟩
  | trans _ _ ih1 ih2 =>
    obtain ⟨L1, q1, q2⟩ := ih2 hl
    obtain ⟨L2, q3, q4⟩ := ih1 q1.symm
    exact ⟨L2, q3, q4.trans q2⟩
theorem tail_S {g : Bool → Sem Unit} (hg : ∀ (b : Bool) (s₁ : Shared) (Q' : Unit → Shared → Prop), Q' () s₁ → wpAny (model P w) A (g b) Q' E s₁) {o : Obj} (ho : s.heap.get? a = some o) (hex : o.ExactSet) (hd : o.data = .set es ep t)
    {es1 : Array (Int × Value)} {t2 : SetTable} {L1 : List (Value × Key)} (r1 : es1.toList = L1.map fun p => (hK P w p.2, p.1)) (k1 : ∀ p ∈ L1, (mixKind P w).is p.2 p.1 = true ∧ p.1.scannable = true) (nd1 : (L1.map (·.2)).Nodup)
    (few1 : L1.length < 64) (hf2 : t2.fits es1.size = true) (hr : Ris t2.place.toList) (hl : w.params.followText "set-order" = true ∨ t2.led = true) {wasDummy : Bool} {R : Option Bool → Shared → Prop}
    (hR : ∀ h' L' es' ep' t', Heap.SameBut a s.heap h' → SetS P w h' a L' es' ep' t' → L'.Perm L1 → R (some true) { s with heap := h' }) :
    wpAny (model P w) A (do
        storeSet a es1 t2
        if (!wasDummy && t2.tooFull) = true then do
            g (relayAll t2 es1 (SetTable.grown es1.size)).2.2
            storeSet a (relayAll t2 es1 (SetTable.grown es1.size)).1 (relayAll t2 es1 (SetTable.grown es1.size)).2.1
            pure (some true)
          else pure (some true)) R E s := by
  have hz := rowsS_len r1
  have hb1 : es1.size < scanBound := by rw [hz]; exact Nat.lt_trans few1 (by decide)
  refine wpAny_bind (wpAny_storeSet_of ho hd ?_ (fits_of_scanBound hb1))
  have ho1 := store_at (es' := es1) (t' := t2) ho hd
  have sb1 := Heap.SameBut.update s.heap a (Obj.putSet es1 t2)
  split
  · have pm := relayAll_perm t2 es1 (SetTable.grown es1.size)
    have hf3 := relayAll_fits t2 es1 (SetTable.grown es1.size)
    have hr3 := relayAll_ris t2 es1 (SetTable.grown es1.size)
    have hl3 := relayAll_led t2 es1 (SetTable.grown es1.size)
    generalize relayAll t2 es1 (SetTable.grown es1.size) = Z at pm hf3 hr3 hl3 ⊢
    obtain ⟨es2, t3, gave⟩ := Z
    dsimp only at pm hf3 hr3 hl3 ⊢
    rw [r1] at pm
    obtain ⟨L2, q1, q2⟩ := perm_rows pm
    have few2 : L2.length < 64 := by rw [q2.length_eq]; exact few1
    have hb2 : es2.size < scanBound := by rw [rowsS_len q1]; exact Nat.lt_trans few2 (by decide)
    refine wpAny_bind (hg _ _ _ (wpAny_bind (wpAny_storeSet_of ho1 rfl ?_ (fits_of_scanBound hb2))))
    have ho2 := store_at (es' := es2) (t' := t3) ho1 rfl
    exact wpAny_pure (hR _ L2 es2 _ t3 (sb1.trans (Heap.SameBut.update _ a _)) ⟨⟨_, ho2, hex, rfl⟩, q1, fun p hp => k1 p (q2.mem_iff.mp hp), (q2.map (·.2)).nodup_iff.mpr nd1, hf3, hr3, hl.imp id fun z => by rw [hl3]; exact z, few2⟩ q2)
  · exact wpAny_pure (hR _ L1 es1 _ t2 sb1 ⟨⟨_, ho1, hex, rfl⟩, r1, k1, nd1, hf2, hr, hl, few1⟩ (.refl _))
theorem add_S (R : SetS P w s.heap a L es ep t) {x : Value} {k : Key} (hx : (mixKind P w).is k x = true) (hsc : x.scannable = true) (hfew : k ∉ L.map (·.2) → L.length + 1 < 64) {Q : Bool → Shared → Prop}
    (hQ : ∀ b h' L' es' ep' t', Heap.SameBut a s.heap h' → SetS P w h' a L' es' ep' t' → (k ∈ L.map (·.2) → L' = L) → (k ∉ L.map (·.2) → L'.Perm ((x, k) :: L)) → Q b { s with heap := h' }) :
    wpAny (model P w) A (setAddHashed a x (hK P w k)) Q E s := by
  obtain ⟨o, ho, hex, hd⟩ := R.ob
  have hel := R.elems
  have hz := rowsS_len R.rows
  have hb : es.size < scanBound := by rw [hz]; exact Nat.lt_trans R.few (by decide)
  have mem_is : ∀ e ∈ es.toList, (mixKind P w).is k e.2 = true ↔ ∃ p ∈ L, p.2 = k ∧ e = (hK P w p.2, p.1) := fun e he => by
    rw [R.rows] at he
    obtain ⟨p, hp, rfl⟩ := List.mem_map.mp he
    have ip := (R.key p hp).1
    have dq : (mixKind P w).is k p.1 = decide (k = p.2) := KeyKind.is_eq_decide ip k
    constructor
    · intro q
      have q : (mixKind P w).is k p.1 = true := q
      rw [dq, decide_eq_true_eq] at q
      exact ⟨p, hp, q.symm, rfl⟩
    · rintro ⟨p', hp', e1, e2⟩
      have e3 : p.1 = p'.1 := congrArg Prod.snd e2
      show (mixKind P w).is k p.1 = true
      rw [e3, ← e1]
      exact (R.key p' hp').1
  unfold setAddHashed setAddHashedIn
  refine wpAny_holding (wpAny_bind (wpAny_setState_of ho hd R.fits ?_))
  dsimp only
  rw [byScan_of hsc hb hel]
  simp only [↓reduceIte]
  unfold setAddByScan
  refine wpAny_bind (wpAny_bind (wpAny_rule (wpAny_bind (wpAny_setScan_of hx ho hd R.fits hel ?_))))
  cases hfi : List.findIdx? (fun e => (mixKind P w).is k e.2) es.toList with
  | some j =>
    dsimp only
    obtain ⟨hj, pj, _⟩ := List.findIdx?_eq_some_iff_getElem.mp hfi
    obtain ⟨p, hp, e, _⟩ := (mem_is _ (List.getElem_mem hj)).1 pj
    have hin : k ∈ L.map (·.2) := List.mem_map.mpr ⟨p, hp, e⟩
    exact wpAny_pure (wpAny_pure (hQ false s.heap L es ep t (Heap.SameBut.refl a s.heap) R (fun _ => rfl) fun z => absurd hin z))
  | none =>
    dsimp only
    have hnk : k ∉ L.map (·.2) := fun z => by
      obtain ⟨p, hp, e⟩ := List.mem_map.mp z
      have he : (hK P w p.2, p.1) ∈ es.toList := by rw [R.rows]; exact List.mem_map.mpr ⟨p, hp, rfl⟩
      have c := List.findIdx?_eq_none_iff.mp hfi _ he
      rw [(mem_is _ he).2 ⟨p, hp, e, rfl⟩] at c
      cases c
    have hgw : ∀ (b : Bool) {s₁ : Shared} {Q' : Unit → Shared → Prop}, Q' () s₁ → wpAny (model P w) A (match b with | true => rule "set.scan.the-table-gave-way" | false => pure ()) Q' E s₁ := fun b s₁ Q' q => by cases b <;> first | exact wpAny_pure q | exact wpAny_rule q
    have pm := layNew_perm t es (hK P w k) x
    have hf1 := layNew_fits t es (hK P w k) x
    have hr1 := layNew_ris t es (hK P w k) x R.ris
    have hl1 := layNew_led t es (hK P w k) x
    generalize layNew t es (hK P w k) x = Z at pm hf1 hr1 hl1 ⊢
    obtain ⟨es1, t1, wasDummy, gave⟩ := Z
    dsimp only at pm hf1 hr1 hl1 ⊢
    rw [Array.toList_push, R.rows] at pm
    have pc : es1.toList.Perm (((x, k) :: L).map fun p => (hK P w p.2, p.1)) := pm.trans (List.perm_append_singleton _ _)
    obtain ⟨L1, r1, p1⟩ := perm_rows pc
    have k1 : ∀ p ∈ L1, (mixKind P w).is p.2 p.1 = true ∧ p.1.scannable = true := fun p hp => by
      rcases List.mem_cons.mp (p1.mem_iff.mp hp) with z | z
      · rw [z]; exact ⟨hx, hsc⟩
      · exact R.key p z
    have nd1 : (L1.map (·.2)).Nodup := (p1.map (·.2)).nodup_iff.mpr (by rw [List.map_cons]; exact List.nodup_cons.mpr ⟨hnk, R.nd⟩)
    have few1 : L1.length < 64 := by rw [p1.length_eq, List.length_cons]; exact hfew hnk
    have hled : w.params.followText "set-order" = true ∨ t1.led = true := R.led.imp id fun z => by rw [hl1]; exact z
    have fin : ∀ h' L' es' ep' t', Heap.SameBut a s.heap h' → SetS P w h' a L' es' ep' t' → L'.Perm L1 → Q true { s with heap := h' } := fun h' L' es' ep' t' sb R' q => hQ true h' L' es' ep' t' sb R' (fun z => absurd z hnk) fun _ => q.trans p1
    refine wpAny_bind (hgw _ ?_)
    split
    · refine wpAny_bind ?_
      rw [hashByValue_scannable 8 hsc]
      refine wpAny_pure (tail_S ?_ ho hex hd r1 k1 nd1 few1 ?_ ?_ ?_ ?_)
      · intro b s₁ Q' q; cases b <;> first | exact wpAny_pure q | exact wpAny_rule q
      · first | (split <;> first | exact hf1 | exact SetTable.fits_plain_off hf1) | exact hf1
      · first | (split <;> exact hr1) | exact hr1
      · first | (split <;> exact hled) | exact hled
      · intro h' L' es' ep' t' sb r q; dsimp only; exact wpAny_pure (fin h' L' es' ep' t' sb r q)
    · refine wpAny_bind (wpAny_pure ?_)
      simp only [↓reduceIte]
      refine tail_S ?_ ho hex hd r1 k1 nd1 few1 hf1 hr1 hled ?_
      · intro b s₁ Q' q; cases b <;> first | exact wpAny_pure q | exact wpAny_rule q
      · intro h' L' es' ep' t' sb r q; dsimp only; exact wpAny_pure (fin h' L' es' ep' t' sb r q)
end
end U
end

section
set_option Elab.async false
set_option linter.all false
set_option maxRecDepth 100000
namespace U
open PySem PySem.Spec PyProof.Rows L2
/-- a new set -/
abbrev fset (w : World) : Obj := { cls := .type "set", dict := none, data := .set #[] 0 (.fresh 0 0 (!w.params.followText "set-order")) }
/-- how a set of such keys is kept -/
structure Road (P : Program) (w : World) (κ : Type) where
  Rel : Heap → Addr → List (Value × κ) → Prop
  Is : Heap → κ → Value → Prop
  isKeep : ∀ {h h' : Heap} {k : κ} {v : Value}, Is h k v → (∀ c o, h.get? c = some o → h'.get? c = some o) → Is h' k v
  fresh : ∀ {h : Heap} {a : Addr}, h.get? a = some (fset w) → Rel h a []
  keep : ∀ {h h' : Heap} {a : Addr} {L : List (Value × κ)}, Rel h a L → (∀ o, h.get? a = some o → h'.get? a = some o) → (∀ p ∈ L, Is h' p.2 p.1) → Rel h' a L
  nd : ∀ {h : Heap} {a : Addr} {L : List (Value × κ)}, Rel h a L → (L.map (·.2)).Nodup
  add : ∀ {A : Around} {E : Value → Shared → Prop} {s : Shared} {a : Addr} {L : List (Value × κ)} {x : Value} {k : κ} {Q : Bool → Shared → Prop}, Rel s.heap a L → Is s.heap k x → A.units + 20 < cLine → (k ∉ L.map (·.2) → L.length + 1 < 64) →
    (∀ b h' tk L', s.toks ≤ tk → Heap.SameBut a s.heap h' → Rel h' a L' → (k ∈ L.map (·.2) → L' = L) → (k ∉ L.map (·.2) → L'.Perm ((x, k) :: L)) → Q b { s with heap := h', toks := tk }) → wpAny (model P w) A (setAdd a x) Q E s
  out : ∀ {h : Heap} {a : Addr} {L : List (Value × κ)}, Rel h a L → ∃ es ep t, SetAt h a es ep t ∧ t.fits es.size = true ∧ es.size < scanBound ∧ Ris t.place.toList ∧ (w.params.followText "set-order" = true ∨ t.led = true) ∧ es.toList.map (·.2) = L.map (·.1)
section
variable {P : Program} {w : World} {A : Around} {E : Value → Shared → Prop} {s : Shared} {κ : Type}
/-- what stands in the set of the first i -/
structure Kept (ks : List (Value × κ)) (i : Nat) (L : List (Value × κ)) : Prop where
  sub : ∀ p ∈ L, p ∈ ks.take i
  all : ∀ p ∈ ks.take i, p.2 ∈ L.map (·.2)
theorem Kept.zero (ks : List (Value × κ)) : Kept ks 0 [] := ⟨fun p h => (by cases h), fun p h => (by simp at h)⟩
theorem Kept.step {ks L L' : List (Value × κ)} {i : Nat} {x : Value × κ} (g : Kept ks i L) (h : ks[i]? = some x) (h1 : x.2 ∈ L.map (·.2) → L' = L) (h2 : x.2 ∉ L.map (·.2) → L'.Perm (x :: L)) : Kept ks (i + 1) L' := by
  have e := take_next h
  by_cases c : x.2 ∈ L.map (·.2)
  · rw [h1 c]
    refine ⟨fun p hp => by rw [e]; exact List.mem_append_left _ (g.sub p hp), fun p hp => ?_⟩
    rw [e] at hp
    rcases List.mem_append.mp hp with z | z
    · exact g.all p z
    · rw [List.mem_singleton.mp z]; exact c
  · have pm := h2 c
    refine ⟨fun p hp => ?_, fun p hp => ?_⟩
    · rw [e]
      rcases List.mem_cons.mp (pm.mem_iff.mp hp) with q | z
      · rw [q]; exact List.mem_append_right _ (List.mem_singleton.mpr rfl)
      · exact List.mem_append_left _ (g.sub p z)
    · rw [(pm.map (·.2)).mem_iff, List.map_cons]
      rw [e] at hp
      rcases List.mem_append.mp hp with z | z
      · exact List.mem_cons_of_mem _ (g.all p z)
      · rw [List.mem_singleton.mp z]; exact List.mem_cons_self
/-- few unlike keys -/
def FewK (ks : List (Value × κ)) : Prop := ∀ l : List κ, l.Nodup → (∀ x ∈ l, x ∈ ks.map (·.2)) → l.length < 64
theorem upd_loop (rd : Road P w κ) {I : Addr} {fp wr : List Addr} {G : Array GenState → Array GenState → Prop} {n : Nat} {Pv : Nat → Value → Prop} {St : Nat → Shared → Prop} {R : Result → Shared → Prop}
    (W : WalksS P w A.in1 I fp wr G n Pv St) (S : Addr) (hSf : S ∉ fp) (ks : List (Value × κ)) (hn : n = ks.length) (hfew : FewK ks) (hval : ∀ i v, Pv i v → ∃ p, ks[i]? = some p ∧ v = p.1)
    (h0 : Heap) (hk : ∀ p ∈ ks, rd.Is h0 p.2 p.1) (hS0 : h0.get? S = none) (hw0 : ∀ b ∈ wr, h0.get? b = none) (hu : A.in1.units + 20 < cLine) :
    ∀ (k i : Nat) (s : Shared), n - i = k → i ≤ n → St i s → (∀ b o, h0.get? b = some o → s.heap.get? b = some o) → (∃ L, rd.Rel s.heap S L ∧ Kept ks i L) →
      (∀ s' L, Moved (S :: wr) G s s' → rd.Rel s'.heap S L → Kept ks n L → (∀ b o, h0.get? b = some o → s'.heap.get? b = some o) → R (.ok (.ret .none)) s') →
      codeAny (model P w) A (.builtin "set.update.loop" ⟨[.ref S, .ref I], []⟩) R s := by
  have hSw : S ∉ wr := fun h => hSf (W.sub _ h)
  have hsub : ∀ b ∈ wr, b ∈ S :: wr := fun b hb => List.mem_cons_of_mem _ hb
  have keepM : ∀ {s s' : Shared}, Moved wr G s s' → (∀ b o, h0.get? b = some o → s.heap.get? b = some o) → ∀ b o, h0.get? b = some o → s'.heap.get? b = some o := fun hm hkp b o e => hm.heap b o (fun hb => by rw [hw0 b hb] at e; cases e) (hkp b o e)
  intro k
  induction k with
  | zero =>
    intro i s hk' hi hst hkp ⟨L, hS, g⟩ hR
    have hin : i = n := by omega
    subst hin
    refine codeAny_builtin F.entry_set_update_loop ?_
    rw [Around.under_plainId F.plain_set_update_loop _]
    show wpAny _ A.in1 (pyNext (.ref I) >>= _) _ _ s
    refine wpAny_bind (W.done s _ _ hst fun s' hm => ?_)
    show wpAny _ A.in1 (ret Value.none) _ _ s'
    have hkp' := keepM hm hkp
    exact wpAny_pure (hR s' L (hm.mono hsub) (rd.keep hS (fun o e => hm.heap S o hSw e) fun p hp => rd.isKeep (hk p (List.mem_of_mem_take (g.sub p hp))) hkp') g hkp')
  | succ k ih =>
    intro i s hk' hi hst hkp ⟨L, hS, g⟩ hR
    have hlt : i < n := by omega
    refine codeAny_builtin F.entry_set_update_loop ?_
    rw [Around.under_plainId F.plain_set_update_loop _]
    show wpAny _ A.in1 (pyNext (.ref I) >>= _) _ _ s
    refine wpAny_bind (W.item i s _ _ hlt hst fun v s' hP hst' hm => ?_)
    obtain ⟨p, hp, rfl⟩ := hval i v hP
    have hkp' := keepM hm hkp
    have hS' : rd.Rel s'.heap S L := rd.keep hS (fun o e => hm.heap S o hSw e) fun q hq => rd.isKeep (hk q (List.mem_of_mem_take (g.sub q hq))) hkp'
    have hx : rd.Is s'.heap p.2 p.1 := rd.isKeep (hk p (List.mem_of_getElem? hp)) hkp'
    have room : p.2 ∉ L.map (·.2) → L.length + 1 < 64 := fun c => by
      have q := hfew (p.2 :: L.map (·.2)) (List.nodup_cons.mpr ⟨c, rd.nd hS'⟩) fun x hx => by
        rcases List.mem_cons.mp hx with rfl | hx
        · exact List.mem_map.mpr ⟨p, List.mem_of_getElem? hp, rfl⟩
        · obtain ⟨r, hr, rfl⟩ := List.mem_map.mp hx
          exact List.mem_map.mpr ⟨r, List.mem_of_mem_take (g.sub r hr), rfl⟩
      simpa using q
    show wpAny _ A.in1 (holding [p.1] (setAdd S p.1) >>= _) _ _ s'
    refine wpAny_bind (wpAny_holding (rd.add hS' hx hu room fun b h' tk L' htk hsb hS2 c1 c2 => ?_))
    have hkp2 : ∀ b o, h0.get? b = some o → h'.get? b = some o := fun b o e => (hsb.2 b (fun z => by rw [z, hS0] at e; cases e)).trans (hkp' b o e)
    refine wpAny_pure ⟨plainId_quiet F.plain_set_update_loop _, ih (i + 1) _ (by omega) hlt (W.frame _ s' _ _ hst' htk fun b hb o e => ?_) hkp2 ⟨L', hS2, g.step hp c1 c2⟩ fun s'' L2 hm'' hS'' g'' hkp'' => ?_⟩
    · rw [hsb.2 b (fun h : b = S => hSf (by rw [← h]; exact hb))]; exact e
    · refine hR s'' L2 (Moved.trans W.gtrans ((hm.mono hsub).then_heap htk fun b o hb e => ?_) hm'') hS'' g'' hkp''
      rw [hsb.2 b (fun h : b = S => hb (by rw [h]; exact List.mem_cons_self))]; exact e
set_option maxHeartbeats 3200000 in
/-- set(x), x a list -/
theorem call_set_list (rd : Road P w κ) {l : Addr} {items : Array Value} (ks : List (Value × κ)) {Q : Value → Shared → Prop} (hh : A.handled = none) (hl : s.heap.IsList l items) (hit : items.toList = ks.map (·.1))
    (hk : ∀ p ∈ ks, rd.Is s.heap p.2 p.1) (hfew : FewK ks) (hu : A.units + 24 < cLine)
    (h : ∀ (h' : Heap) (tk : Nat) L, rd.Rel h' s.heap.objs.size L → Kept ks ks.length L → (∀ b o, s.heap.get? b = some o → h'.get? b = some o) → Q (.ref s.heap.objs.size) { s with heap := h', toks := tk }) :
    wpAny (model P w) A (call (.type "set") [.ref l]) Q E s := by
  have hisz : items.size = ks.length := by rw [← Array.length_toList, hit, List.length_map]
  obtain ⟨c, tl, hmro⟩ := F.called_set.mro
  have f1 := F.called_set.made
  have f2 := F.called_set.sub
  refine wpAny_call (codeAny_of_tree ?_)
  show wpAny _ _ (callAny (.type "set") _) _ _ _
  refine wpAny_pure ⟨Code.quiet_builtin _ (by decide +kernel), codeAny_builtin F.entry_type_call ?_⟩
  rw [Around.under_plain (weight_type_call_type "set" [.ref l] []) rfl]
  have f3 := F.called_set.notType
  have f4 := F.called_set.canCreate
  have f5 := F.typeCall_set_1 (.ref l)
  repeat (any_goals (first | assumption | wp_step))
  refine codeAny_mono (code_set_led1 (.ref l) (E := E) (Q₁ := fun obj s₁ => obj = .ref s.heap.objs.size ∧ s₁ = { s with heap := s.heap.push (fset w) }) ⟨rfl, rfl⟩) fun r s₁ hr => ?_
  cases r with
  | error e => exact hr
  | ok fl =>
    cases fl with
    | ret obj =>
      obtain ⟨rfl, rfl⟩ := hr
      have hS : (s.heap.push (fset w)).get? s.heap.objs.size = some (fset w) := Heap.get?_push_size _ rfl
      have hT : Shared.TypeIs { s with heap := s.heap.push (fset w) } (.ref s.heap.objs.size) "set" := ⟨_, hS, rfl⟩
      have f6 := F.called_set.init.lookup
      have f7 := F.called_set.init.bind (.ref s.heap.objs.size)
      repeat (any_goals (first | assumption | wp_step))
      refine codeAny_mono (codeAny_call_builtin (R := wants (fun r s₂ => r = .none ∧ ∃ h' tk L, s₂ = { s with heap := h', toks := tk } ∧ rd.Rel h' s.heap.objs.size L ∧ Kept ks ks.length L ∧ (∀ b o, s.heap.get? b = some o → h'.get? b = some o)) E) F.called_set.init.plain F.entry_set_init (check_set_init_1 hT ?_)) fun r₂ s₂ hr₂ => ?_
      · obtain ⟨ol, hol, hcl, nl, hdl⟩ := hl
        obtain ⟨ocls, odict, odata, oslots⟩ := ol
        simp only at hcl hdl
        subst hcl; subst hdl
        have hol' : (s.heap.push (fset w)).get? l = some { cls := .type "list", dict := odict, data := .seq items nl, slots := oslots } := Heap.get?_push_of_some _ hol
        have f8 := F.sub_list_set
        have f9 := F.sub_list_frozenset
        have hne : (Value.type "list" == Value.type "dict") = false := by decide
        have hl1 : (s.heap.push (fset w)).IsList l items := ⟨_, hol', rfl, nl, rfl⟩
        unfold Builtin.«set.__init__» noKeywords Builtin.Frozenset.updateFrom
        generalize hPI : pyIter = PI
        wp_walk
        subst hPI
        refine wpAny_pyIter_list hl1 (wpAny_bind (wpAny_runValue ?_))
        have hlS : l < s.heap.objs.size := Heap.lt_size hol
        have hh3 : A.in1.in1.in1.handled = none := by simp [hh]
        have hneI : l ≠ (s.heap.push (fset w)).objs.size := by rw [Heap.size_push]; exact Nat.ne_of_lt (Nat.lt_succ_of_lt hlS)
        have hSf : s.heap.objs.size ∉ [(s.heap.push (fset w)).objs.size, l] := by
          rw [Heap.size_push]
          simp only [List.mem_cons, List.mem_singleton, List.not_mem_nil, or_false, not_or]
          exact ⟨Nat.ne_of_lt (Nat.lt_succ_self _), Nat.ne_of_gt hlS⟩
        have hval : ∀ (i : Nat) (v : Value), items[i]? = some v → ∃ p, ks[i]? = some p ∧ v = p.1 := fun i v hv => by
          have q : items.toList[i]? = some v := by rw [Array.getElem?_toList]; exact hv
          rw [hit, List.getElem?_map] at q
          obtain ⟨p, e1, e2⟩ := map_some q
          exact ⟨p, e1, e2.symm⟩
        have none_of : ∀ b, s.heap.objs.size ≤ b → s.heap.get? b = none := fun b hb => by
          cases q : s.heap.get? b with
          | none => rfl
          | some o => exact absurd (Nat.lt_of_lt_of_le (Heap.lt_size q) hb) (Nat.lt_irrefl _)
        refine upd_loop rd ((Walks.list hh3 _ l hneI items).toS) s.heap.objs.size hSf ks hisz hfew hval s.heap hk (none_of _ (Nat.le_refl _)) (fun b hb => none_of b (by rw [List.mem_singleton.mp hb, Heap.size_push]; exact Nat.le_succ _))
          (by show A.units + 1 + 1 + 1 + 20 < cLine; omega) (items.size - 0) 0 _ (by omega) (Nat.zero_le _) ⟨⟨_, Heap.get?_push_size _ rfl, rfl, rfl⟩, (hl1.push _)⟩ (fun b o e => Heap.get?_push_of_some _ (Heap.get?_push_of_some _ e)) ?hS0 ?hR
        case hS0 => exact ⟨[], rd.fresh (Heap.get?_push_of_some _ hS), Kept.zero ks⟩
        case hR =>
          intro s' L hm hS' g' hkp
          obtain ⟨h', g2, d', tk', os'⟩ := s'
          have eg : g2 = s.gens := hm.gens
          have ed : d' = s.drawn := hm.drawn
          have eo : os' = s.os := hm.os
          subst eg; subst ed; subst eo
          show wpAny _ _ _ _ _ _
          refine wpAny_pure ?_
          show wpAny _ _ (ret Value.none) _ _ _
          rw [hisz] at g'
          exact wpAny_pure ⟨rfl, h', tk', L, rfl, hS', g', hkp⟩
      · cases r₂ with
        | error e => exact hr₂
        | ok fl₂ =>
          cases fl₂ with
          | ret r =>
            obtain ⟨rfl, h', tk, L, rfl, hS', g', hk'⟩ := hr₂
            repeat (any_goals (first | assumption | wp_step))
            exact h _ _ _ hS' g' hk'
          | _ => exact hr₂.elim
    | _ => exact hr.elim
set_option maxHeartbeats 3200000 in
/-- set(x), x a tuple -/
theorem call_set_tuple (rd : Road P w κ) {l : Addr} {items : Array Value} (ks : List (Value × κ)) {Q : Value → Shared → Prop} (hh : A.handled = none) (hl : s.heap.IsTuple l items) (hit : items.toList = ks.map (·.1))
    (hk : ∀ p ∈ ks, rd.Is s.heap p.2 p.1) (hfew : FewK ks) (hu : A.units + 24 < cLine)
    (h : ∀ (h' : Heap) (tk : Nat) L, rd.Rel h' s.heap.objs.size L → Kept ks ks.length L → (∀ b o, s.heap.get? b = some o → h'.get? b = some o) → Q (.ref s.heap.objs.size) { s with heap := h', toks := tk }) :
    wpAny (model P w) A (call (.type "set") [.ref l]) Q E s := by
  have hisz : items.size = ks.length := by rw [← Array.length_toList, hit, List.length_map]
  obtain ⟨c, tl, hmro⟩ := F.called_set.mro
  have f1 := F.called_set.made
  have f2 := F.called_set.sub
  refine wpAny_call (codeAny_of_tree ?_)
  show wpAny _ _ (callAny (.type "set") _) _ _ _
  refine wpAny_pure ⟨Code.quiet_builtin _ (by decide +kernel), codeAny_builtin F.entry_type_call ?_⟩
  rw [Around.under_plain (weight_type_call_type "set" [.ref l] []) rfl]
  have f3 := F.called_set.notType
  have f4 := F.called_set.canCreate
  have f5 := F.typeCall_set_1 (.ref l)
  repeat (any_goals (first | assumption | wp_step))
  refine codeAny_mono (code_set_led1 (.ref l) (E := E) (Q₁ := fun obj s₁ => obj = .ref s.heap.objs.size ∧ s₁ = { s with heap := s.heap.push (fset w) }) ⟨rfl, rfl⟩) fun r s₁ hr => ?_
  cases r with
  | error e => exact hr
  | ok fl =>
    cases fl with
    | ret obj =>
      obtain ⟨rfl, rfl⟩ := hr
      have hS : (s.heap.push (fset w)).get? s.heap.objs.size = some (fset w) := Heap.get?_push_size _ rfl
      have hT : Shared.TypeIs { s with heap := s.heap.push (fset w) } (.ref s.heap.objs.size) "set" := ⟨_, hS, rfl⟩
      have f6 := F.called_set.init.lookup
      have f7 := F.called_set.init.bind (.ref s.heap.objs.size)
      repeat (any_goals (first | assumption | wp_step))
      refine codeAny_mono (codeAny_call_builtin (R := wants (fun r s₂ => r = .none ∧ ∃ h' tk L, s₂ = { s with heap := h', toks := tk } ∧ rd.Rel h' s.heap.objs.size L ∧ Kept ks ks.length L ∧ (∀ b o, s.heap.get? b = some o → h'.get? b = some o)) E) F.called_set.init.plain F.entry_set_init (check_set_init_1 hT ?_)) fun r₂ s₂ hr₂ => ?_
      · obtain ⟨ol, hol, hcl, nl, hdl⟩ := hl
        obtain ⟨ocls, odict, odata, oslots⟩ := ol
        simp only at hcl hdl
        subst hcl; subst hdl
        have hol' : (s.heap.push (fset w)).get? l = some { cls := .type "tuple", dict := odict, data := .seq items nl, slots := oslots } := Heap.get?_push_of_some _ hol
        have f8 := F.sub_tuple_set
        have f9 := F.sub_tuple_frozenset
        have hne : (Value.type "tuple" == Value.type "dict") = false := by decide
        have hl1 : (s.heap.push (fset w)).IsTuple l items := ⟨_, hol', rfl, nl, rfl⟩
        unfold Builtin.«set.__init__» noKeywords Builtin.Frozenset.updateFrom
        generalize hPI : pyIter = PI
        wp_walk
        subst hPI
        refine wpAny_pyIter_tuple hl1 (wpAny_bind (wpAny_runValue ?_))
        have hlS : l < s.heap.objs.size := Heap.lt_size hol
        have hh3 : A.in1.in1.in1.handled = none := by simp [hh]
        have hneI : l ≠ (s.heap.push (fset w)).objs.size := by rw [Heap.size_push]; exact Nat.ne_of_lt (Nat.lt_succ_of_lt hlS)
        have hSf : s.heap.objs.size ∉ [(s.heap.push (fset w)).objs.size, l] := by
          rw [Heap.size_push]
          simp only [List.mem_cons, List.mem_singleton, List.not_mem_nil, or_false, not_or]
          exact ⟨Nat.ne_of_lt (Nat.lt_succ_self _), Nat.ne_of_gt hlS⟩
        have hval : ∀ (i : Nat) (v : Value), items[i]? = some v → ∃ p, ks[i]? = some p ∧ v = p.1 := fun i v hv => by
          have q : items.toList[i]? = some v := by rw [Array.getElem?_toList]; exact hv
          rw [hit, List.getElem?_map] at q
          obtain ⟨p, e1, e2⟩ := map_some q
          exact ⟨p, e1, e2.symm⟩
        have none_of : ∀ b, s.heap.objs.size ≤ b → s.heap.get? b = none := fun b hb => by
          cases q : s.heap.get? b with
          | none => rfl
          | some o => exact absurd (Nat.lt_of_lt_of_le (Heap.lt_size q) hb) (Nat.lt_irrefl _)
        refine upd_loop rd ((Walks.tuple hh3 _ l hneI items).toS) s.heap.objs.size hSf ks hisz hfew hval s.heap hk (none_of _ (Nat.le_refl _)) (fun b hb => none_of b (by rw [List.mem_singleton.mp hb, Heap.size_push]; exact Nat.le_succ _))
          (by show A.units + 1 + 1 + 1 + 20 < cLine; omega) (items.size - 0) 0 _ (by omega) (Nat.zero_le _) ⟨⟨_, Heap.get?_push_size _ rfl, rfl, rfl⟩, (hl1.push _)⟩ (fun b o e => Heap.get?_push_of_some _ (Heap.get?_push_of_some _ e)) ?hS0 ?hR
        case hS0 => exact ⟨[], rd.fresh (Heap.get?_push_of_some _ hS), Kept.zero ks⟩
        case hR =>
          intro s' L hm hS' g' hkp
          obtain ⟨h', g2, d', tk', os'⟩ := s'
          have eg : g2 = s.gens := hm.gens
          have ed : d' = s.drawn := hm.drawn
          have eo : os' = s.os := hm.os
          subst eg; subst ed; subst eo
          show wpAny _ _ _ _ _ _
          refine wpAny_pure ?_
          show wpAny _ _ (ret Value.none) _ _ _
          rw [hisz] at g'
          exact wpAny_pure ⟨rfl, h', tk', L, rfl, hS', g', hkp⟩
      · cases r₂ with
        | error e => exact hr₂
        | ok fl₂ =>
          cases fl₂ with
          | ret r =>
            obtain ⟨rfl, h', tk, L, rfl, hS', g', hk'⟩ := hr₂
            repeat (any_goals (first | assumption | wp_step))
            exact h _ _ _ hS' g' hk'
          | _ => exact hr₂.elim
    | _ => exact hr.elim
end
end U
end

section
set_option Elab.async false
set_option linter.all false
set_option maxRecDepth 100000
namespace U
open PySem PySem.Spec PyProof.Rows L2
section
variable {P : Program} {w : World}
theorem setN_fresh {h : Heap} {a : Addr} (ho : h.get? a = some (fset w)) : SetN w h a [] #[] 0 (.fresh 0 0 (!w.params.followText "set-order")) where
  ob := ⟨_, ho, ⟨rfl, rfl, rfl⟩, rfl⟩
  rows := rfl
  tab := ⟨List.Pairwise.nil, rfl, rfl, .inl rfl, fun x hx => (by cases hx), fun i h j hi => (by simp at hi)⟩
  nd := List.nodup_nil
  key := fun p hp => (by cases hp)
  led := by
    show _ ∨ (!w.params.followText "set-order") = true
    cases w.params.followText "set-order"
    · exact .inr rfl
    · exact .inl rfl
  room := by show 0 * 5 < 7 * 3; decide
  few := by show 0 < 64; decide
theorem setS_fresh {h : Heap} {a : Addr} (ho : h.get? a = some (fset w)) : SetS P w h a [] #[] 0 (.fresh 0 0 (!w.params.followText "set-order")) where
  ob := ⟨_, ho, ⟨rfl, rfl, rfl⟩, rfl⟩
  rows := rfl
  nd := List.nodup_nil
  key := fun p hp => (by cases hp)
  fits := rfl
  ris := List.Pairwise.nil
  led := by
    show _ ∨ (!w.params.followText "set-order") = true
    cases w.params.followText "set-order"
    · exact .inr rfl
    · exact .inl rfl
  few := by show 0 < 64; decide
/-- nested tuples -/
def roadT (P : Program) (w : World) : Road P w NK where
  Rel := fun h a L => ∃ (L0 : List (Addr × NK)) (es : Array (Int × Value)) (ep : Nat) (t : SetTable), L = L0.map (fun p => (Value.ref p.1, p.2)) ∧ SetN w h a L0 es ep t
  Is := fun h k v => ∃ b, v = .ref b ∧ IsN h k b
  isKeep := fun ⟨b, e, x⟩ hk => ⟨b, e, isN_keep x hk⟩
  fresh := fun ho => ⟨[], #[], 0, _, rfl, setN_fresh ho⟩
  keep := by
    rintro h h' a L ⟨L0, es, ep, t, rfl, R⟩ ha hk
    obtain ⟨o, ho, r⟩ := R.ob
    refine ⟨L0, es, ep, t, rfl, ⟨o, ha o ho, r⟩, R.rows, R.tab, R.nd, fun p hp => ?_, R.led, R.room, R.few⟩
    obtain ⟨b, e, x⟩ := hk (.ref p.1, p.2) (List.mem_map.mpr ⟨p, hp, rfl⟩)
    cases e
    exact x
  nd := by
    rintro h a L ⟨L0, es, ep, t, rfl, R⟩
    rw [List.map_map]
    exact R.nd
  add := by
    rintro A E s a L x k Q ⟨L0, es, ep, t, rfl, R⟩ ⟨b, rfl, hx⟩ hu hf hQ
    have em : (L0.map (fun p => (Value.ref p.1, p.2))).map (·.2) = L0.map (·.2) := by rw [List.map_map]; rfl
    rw [em, List.length_map] at hf
    unfold setAdd
    refine wpAny_holding (wpAny_bind (pyHash_key k _ A s _ hx.1 (by have := hx.2; omega) ?_))
    refine add_N (s := { s with toks := s.toks + k.draws }) R hx (by omega) hf fun b' h' L' es' ep' t' sb R' c1 c2 => ?_
    refine hQ b' h' _ (L'.map fun p => (Value.ref p.1, p.2)) (Nat.le_add_right _ _) sb ⟨L', es', ep', t', rfl, R'⟩ (fun c => ?_) fun c => ?_
    · rw [em] at c
      rw [c1 c]
    · rw [em] at c
      exact (c2 c).map fun p => (Value.ref p.1, p.2)
  out := by
    rintro h a L ⟨L0, es, ep, t, rfl, R⟩
    obtain ⟨o, ho, hex, hd⟩ := R.ob
    have hz := rowsN_len R.rows
    have hr := R.room
    refine ⟨es, ep, t, ⟨o, ho, hex.1, hd⟩, fits_of R.tab (by rw [List.length_map, hz]) (by omega), by rw [hz]; exact Nat.lt_trans R.few (by decide), R.tab.ris, R.led, ?_⟩
    rw [R.rows]
    unfold rowsN
    rw [List.map_map, List.map_map]; rfl
/-- ints and texts -/
def roadS (P : Program) (w : World) : Road P w Key where
  Rel := fun h a L => ∃ (es : Array (Int × Value)) (ep : Nat) (t : SetTable), SetS P w h a L es ep t
  Is := fun _ k v => (mixKind P w).is k v = true ∧ v.scannable = true
  isKeep := fun x _ => x
  fresh := fun ho => ⟨#[], 0, _, setS_fresh ho⟩
  keep := by
    rintro h h' a L ⟨es, ep, t, R⟩ ha hk
    obtain ⟨o, ho, r⟩ := R.ob
    exact ⟨es, ep, t, ⟨o, ha o ho, r⟩, R.rows, R.key, R.nd, R.fits, R.ris, R.led, R.few⟩
  nd := by
    rintro h a L ⟨es, ep, t, R⟩
    exact R.nd
  add := by
    rintro A E s a L x k Q ⟨es, ep, t, R⟩ ⟨hx, hsc⟩ hu hf hQ
    unfold setAdd
    refine wpAny_holding (wpAny_bind ((mixKind P w).pyHash hx ?_))
    refine add_S (s := { s with toks := s.toks + 1 }) R hx hsc hf fun b' h' L' es' ep' t' sb R' c1 c2 => ?_
    exact hQ b' h' _ L' (Nat.le_add_right _ _) sb ⟨es', ep', t', R'⟩ c1 c2
  out := by
    rintro h a L ⟨es, ep, t, R⟩
    obtain ⟨o, ho, hex, hd⟩ := R.ob
    refine ⟨es, ep, t, ⟨o, ho, hex.1, hd⟩, R.fits, by rw [rowsS_len R.rows]; exact Nat.lt_trans R.few (by decide), R.ris, R.led, ?_⟩
    rw [R.rows, List.map_map]; rfl
end
theorem perm_inv {α β : Type} {f : α → β} : ∀ {M : List β} {L : List α}, M.Perm (L.map f) → ∃ L' : List α, M = L'.map f ∧ L'.Perm L := by
  intro M L h
  generalize hl : L.map f = N at h
  induction h generalizing L with
  | nil =>
    have : L = [] := by simpa using hl
    exact ⟨[], rfl, by rw [this]⟩
  | @cons x l1 l2 _ ih =>
    cases L with
    | nil => cases hl
    | cons p L =>
      rw [List.map_cons] at hl
      injection hl with e1 e2
      obtain ⟨L', q1, q2⟩ := ih e2
      exact ⟨p :: L', by rw [List.map_cons, e1, q1], q2.cons p⟩
  | swap x y l =>
    match L, hl with
    | p :: q :: L, hl =>
      rw [List.map_cons, List.map_cons] at hl
      injection hl with e1 hl
      injection hl with e2 e3
      exact ⟨q :: p :: L, by rw [List.map_cons, List.map_cons, e1, e2, e3], .swap ..⟩
  | trans _ _ ih1 ih2 =>
    obtain ⟨L1, q1, q2⟩ := ih2 hl
    obtain ⟨L2, q3, q4⟩ := ih1 q1.symm
    exact ⟨L2, q3, q4.trans q2⟩
theorem sub_inv {α β : Type} {f : α → β} {S : List α} : ∀ {L : List β}, (∀ p ∈ L, p ∈ S.map f) → ∃ M : List α, L = M.map f ∧ ∀ q ∈ M, q ∈ S
  | [], _ => ⟨[], rfl, fun q h => by cases h⟩
  | p :: L, h => by
    obtain ⟨q, hq, e⟩ := List.mem_map.mp (h p (List.mem_cons_self ..))
    obtain ⟨M, e1, h1⟩ := sub_inv (L := L) fun r hr => h r (List.mem_cons_of_mem _ hr)
    refine ⟨q :: M, by rw [List.map_cons, e, e1], fun r hr => ?_⟩
    rcases List.mem_cons.mp hr with rfl | hr
    · exact hq
    · exact h1 r hr
end U
end

section
set_option Elab.async false
set_option linter.all false
set_option maxRecDepth 100000
namespace U
open PySem PySem.Spec PyProof.Rows L2
theorem each_pairs {α β : Type} {M : List (α × β)} : ∀ {N : List (α × β)}, (∀ q ∈ N, q ∈ M) → PySem.W.EachIs (fun v d => (v, d) ∈ M) (N.map (·.1)) (N.map (·.2))
  | [], _ => .nil
  | q :: N, h => .cons (h q (List.mem_cons_self ..)) (each_pairs fun r hr => h r (List.mem_cons_of_mem _ hr))
section
variable {P : Program} {w : World} {A : Around} {E : Value → Shared → Prop} {s : Shared} {κ : Type}
theorem each_of_mem {h : Heap} {M : List (Value × D)} (hM : ∀ q ∈ M, ∃ as, Reads h q.1 q.2.py as) : ∀ {us : List Value} {ds : List D}, PySem.W.EachIs (fun v d => (v, d) ∈ M) us ds → PySem.W.EachIs (fun v d => ∃ as, Reads h v (D.py d) as) us ds
  | _, _, .nil => .nil
  | _, _, .cons q t => .cons (hM _ q) (each_of_mem hM t)
theorem sorted_road (rd : Road P w κ) {a : Addr} {L : List (Value × κ)} (R : rd.Rel s.heap a L) (hh : A.handled = none) {M : List (Value × D)} (eM : L.map (·.1) = M.map (·.1)) (hM : ∀ q ∈ M, ∃ as, Reads s.heap q.1 q.2.py as) (c : CanSort (M.map (·.2)))
    (hu : A.units + 64 < cLine) {Q : Value → Shared → Prop}
    (hQ : ∀ s' p (ov : List Value) (n : Nat) (M' : List (Value × D)), (∀ b o, s.heap.get? b = some o → s'.heap.get? b = some o) → s'.gens = s.gens → s'.os = s.os → s.heap.objs.size ≤ p → s'.heap.get? p = some (seqObj "list" ov.toArray n) →
      M'.Perm M → PySem.W.EachIs (fun v d => (v, d) ∈ M) ov (sortD (M'.map (·.2))) → Q (.ref p) s') : wpAny (model P w) A (call (.builtin "sorted") [.ref a]) Q E s := by
  obtain ⟨es, ep, t, hat, hfit, hsb, hris, hled, hvs⟩ := rd.out R
  refine Calls.call_function_entry kind_sorted plain_sorted entry_sorted (args_sorted1 _) ?_
  unfold Builtin.«sorted»
  refine wpAny_bind (m := checkCount "sorted" 1 1 _) (wpAny_pure (wpAny_bind (collect_set (A := A.in1) hh hat hfit hsb hris hled fun s1 vs k1 hz g1 o1 pm => ?_)))
  rw [hvs, eM] at pm
  obtain ⟨M', rfl, pM⟩ := perm_inv pm
  have hsub : ∀ q ∈ M', q ∈ M := fun q hq => pM.mem_iff.mp hq
  have cl : CanSort (M'.map (·.2)) := c.sub (fun d hd => by
    obtain ⟨q, hq, rfl⟩ := List.mem_map.mp hd
    exact List.mem_map.mpr ⟨q, hsub q hq, rfl⟩) (by rw [List.length_map, List.length_map, pM.length_eq]; exact Nat.le_refl _)
  have hL : (M'.map (·.1)).length ≤ sizeLine := by
    have := cl.len
    rw [List.length_map] at this ⊢
    exact lim_ok this
  refine wpAny_bind (wpAny_newList ?_ hL)
  have hoL : (s1.heap.push (seqObj "list" (M'.map (·.1)).toArray 0)).get? s1.heap.objs.size = some (seqObj "list" (M'.map (·.1)).toArray 0) := Heap.get?_push_size _ rfl
  have kk : ∀ b o, s.heap.get? b = some o → b ≠ s1.heap.objs.size ∧ (s1.heap.push (seqObj "list" (M'.map (·.1)).toArray 0)).get? b = some o := fun b o e => by
    have q := k1 b o e
    exact ⟨Nat.ne_of_lt (Heap.lt_size q), Heap.get?_push_of_some _ q⟩
  have km : ∀ b o, s.heap.get? b = some o → (PySem.W.sortingHeap (s1.heap.push (seqObj "list" (M'.map (·.1)).toArray 0)) s1.heap.objs.size (M'.map (·.1))).get? b = some o := fun b o e => PySem.W.sortingHeap_old (kk b o e).1 (kk b o e).2
  have ep0 := each_pairs hsub
  have hM2 : ∀ q ∈ M, ∃ as, Reads (PySem.W.sortingHeap (s1.heap.push (seqObj "list" (M'.map (·.1)).toArray 0)) s1.heap.objs.size (M'.map (·.1))) q.1 q.2.py as := fun q hq => by
    obtain ⟨as, r⟩ := hM q hq
    exact ⟨as, Reads.keeps km r⟩
  have er := each_of_mem hM2 ep0
  have hal : PySem.W.AllAlike ((M'.map (·.2)).map D.py) := fun x hx y hy => by
    obtain ⟨d, hd, rfl⟩ := List.mem_map.mp hx
    obtain ⟨e, he, rfl⟩ := List.mem_map.mp hy
    exact D.like_py d e (cl.like d hd e he)
  have out := PySem.W.sortVals_data false ep0 er hal
  rw [show (M'.map (·.2)).mergeSort (PySem.W.dataLe false D.py) = sortD (M'.map (·.2)) from merge_eq cl.like] at out
  have S := sorts_D (prog := P) (w := w) (A := A.in1.in1) (s := { s1 with heap := PySem.W.sortingHeap (s1.heap.push (seqObj "list" (M'.map (·.1)).toArray 0)) s1.heap.objs.size (M'.map (·.1)) }) cl er (by show A.units + 1 + 1 + 61 < cLine; omega)
  refine wpAny_bind (wpAny_holding (wpAny_call_entry slot_list_sort ⟨_, hoL, rfl⟩ entry_list_sort (PySem.W.list_sort_vals (s := { s1 with heap := s1.heap.push (seqObj "list" (M'.map (·.1)).toArray 0) }) hoL S hL ⟨_, rfl, ?_⟩) (args_list_sort _)))
  generalize PySem.W.sortVals _ false (M'.map (·.1)) (M'.map (·.1)) = ov at out ⊢
  obtain ⟨n, hn⟩ := sortedHeap_at (vs := M'.map (·.1)) (out := ov.toArray) hoL
  refine wpAny_pure ⟨_, rfl, hQ _ s1.heap.objs.size ov n M' (fun b u e => ?_) g1 o1 hz hn pM out⟩
  show (sortedHeap (s1.heap.push (seqObj "list" (M'.map (·.1)).toArray 0)) s1.heap.objs.size (M'.map (·.1)) ov.toArray).get? b = some u
  rw [sortedHeap_old (kk b u e).1 (by rw [size_push']; exact Nat.lt_succ_of_lt (Heap.lt_size (k1 b u e)))]
  exact (kk b u e).2
end
/-! ### unlike ones -/
def dedupD : List D → List D
  | [] => []
  | d :: ds => if d.mem ds then dedupD ds else d :: dedupD ds
theorem mem_D {d : D} {ds : List D} (hl : ∀ e ∈ ds, e.like d = true) : d.mem ds = true → d ∈ ds := fun h => by
  obtain ⟨e, he, q⟩ := List.any_eq_true.mp h
  rw [← eqb_eq e d (hl e he) q]; exact he
mutual
theorem eqb_refl : ∀ (d : D), d.like d = true → d.eqb d = true
  | .non, _ => rfl
  | .bl a, _ => by simp [D.eqb]
  | .int a, _ => by simp [D.eqb]
  | .str a, _ => by simp [D.eqb]
  | .tup xs, h => by simp only [D.eqb]; exact eqbL_refl xs (by simpa [D.like] using h)
  | .lst xs, h => by simp only [D.eqb]; exact eqbL_refl xs (by simpa [D.like] using h)
  | .dct _ _ _, h => by simp [D.like] at h
  | .exc _ _, h => by simp [D.like] at h
  | .scr _, h => by simp [D.like] at h
theorem eqbL_refl : ∀ (ds : List D), D.likeL ds ds = true → D.eqbL ds ds = true
  | [], _ => rfl
  | d :: ds, h => by
    simp only [D.likeL, Bool.and_eq_true] at h
    simp only [D.eqbL, Bool.and_eq_true]
    exact ⟨eqb_refl d h.1, eqbL_refl ds h.2⟩
end
theorem dedup_spec : ∀ {ds : List D}, (∀ d ∈ ds, ∀ e ∈ ds, d.like e = true) → (dedupD ds).Nodup ∧ ∀ d, d ∈ dedupD ds ↔ d ∈ ds
  | [], _ => ⟨List.nodup_nil, fun d => Iff.rfl⟩
  | d :: ds, h => by
    obtain ⟨n, m⟩ := dedup_spec (ds := ds) fun x hx y hy => h x (List.mem_cons_of_mem _ hx) y (List.mem_cons_of_mem _ hy)
    unfold dedupD
    by_cases c : d.mem ds = true
    · rw [if_pos c]
      have hd := mem_D (fun e he => h e (List.mem_cons_of_mem _ he) d (List.mem_cons_self ..)) c
      refine ⟨n, fun x => ?_⟩
      rw [m x]
      refine ⟨fun z => List.mem_cons_of_mem _ z, fun z => ?_⟩
      rcases List.mem_cons.mp z with rfl | z
      · exact hd
      · exact z
    · rw [if_neg c]
      have hd : d ∉ dedupD ds := fun z => c (List.any_eq_true.mpr ⟨d, (m d).mp z, eqb_refl d (h d (List.mem_cons_self ..) d (List.mem_cons_self ..))⟩)
      refine ⟨List.nodup_cons.mpr ⟨hd, n⟩, fun x => ?_⟩
      rw [List.mem_cons, List.mem_cons, m x]
def setD (ds : List D) : List D := sortD (dedupD ds)
/-- a list with the same members, none twice, sorted: the set -/
theorem setD_eq {ds es : List D} (h : ∀ d ∈ ds, ∀ e ∈ ds, d.like e = true) (nd : es.Nodup) (hm : ∀ d, d ∈ es ↔ d ∈ ds) : sortD es = setD ds := by
  obtain ⟨n, m⟩ := dedup_spec h
  have pm : es.Perm (dedupD ds) := (List.perm_ext_iff_of_nodup nd n).mpr fun d => (hm d).trans (m d).symm
  have hs : ∀ d ∈ es, ∀ e ∈ es, d.like e = true := fun d hd e he => h d ((hm d).mp hd) e ((hm e).mp he)
  have hs2 : ∀ d ∈ dedupD ds, ∀ e ∈ dedupD ds, d.like e = true := fun d hd e he => h d ((m d).mp hd) e ((m e).mp he)
  refine sorted_one (le := fun a b => leP a b = true) ((sortD_perm es).trans (pm.trans (sortD_perm _).symm)) (sortD_sorted hs) (sortD_sorted hs2) fun a ha b hb h1 h2 => ?_
  exact leP_anti (hs a ((sortD_perm es).mem_iff.mp ha) b ((sortD_perm es).mem_iff.mp hb)) h1 h2
end U
end

section
set_option Elab.async false
set_option linter.all false
set_option maxRecDepth 100000
namespace U
open PySem PySem.Spec PyProof.Rows L2
/-! ### data that may stand in a set -/
mutual
def D.hs : D → Nat → Bool
  | .non, _ => true
  | .bl _, _ => true
  | .int _, _ => true
  | .str _, _ => true
  | .tup xs, n => match n with
    | 0 => false
    | n + 1 => D.hsL xs n
  | .lst _, _ => false
  | .dct _ _ _, _ => false
  | .exc _ _, _ => false
  | .ptp _, _ => false
  | .scr _, _ => false
def D.hsL : List D → Nat → Bool
  | [], _ => true
  | d :: ds, n => d.hs n && D.hsL ds n
end
mutual
def D.nk : D → NK
  | .bl b => .num (if b then 1 else 0)
  | .int i => .num i
  | .str x => .text (stO x)
  | .tup xs => .tup (D.nkL xs)
  | .non => .none
  | .lst _ => .none
  | .dct _ _ _ => .none
  | .exc _ _ => .none
  | .ptp _ => .none
  | .scr _ => .none
def D.nkL : List D → List NK
  | [] => []
  | d :: ds => d.nk :: D.nkL ds
end
mutual
theorem nk_is {h : Heap} : ∀ (d : D) (n : Nat) (v : Value) (as : List Addr), d.hs n = true → Reads h v d.py as → NestedIs h d.nk v ∧ d.nk.depth ≤ n
  | .non, n, v, as, _, r => by simp only [D.py] at r; cases r; exact ⟨.none, by simp [D.nk, NestedKey.depth]⟩
  | .bl b, n, v, as, _, r => by simp only [D.py] at r; cases r; exact ⟨.bool rfl, by simp [D.nk, NestedKey.depth]⟩
  | .int i, n, v, as, _, r => by simp only [D.py] at r; cases r; exact ⟨.int _ _, by simp [D.nk, NestedKey.depth]⟩
  | .str x, n, v, as, _, r => by simp only [D.py] at r; cases r; exact ⟨.text _ _, by simp [D.nk, NestedKey.depth]⟩
  | .tup xs, 0, v, as, h, _ => by simp [D.hs] at h
  | .tup xs, n + 1, v, as, h, r => by
    simp only [D.py] at r
    cases r with
    | tuple h1 h2 h3 h4 =>
      obtain ⟨a, b⟩ := nk_isL xs n _ _ (by simpa [D.hs] using h) h4
      exact ⟨.tup h1 h2 h3 a, by simp only [D.nk, NestedKey.depth]; omega⟩
  | .lst _, n, _, _, h, _ => by simp [D.hs] at h
  | .dct _ _ _, n, _, _, h, _ => by simp [D.hs] at h
  | .exc _ _, n, _, _, h, _ => by simp [D.hs] at h
  | .ptp _, n, _, _, h, _ => by simp [D.hs] at h
  | .scr _, n, _, _, h, _ => by simp [D.hs] at h
theorem nk_isL {h : Heap} : ∀ (ds : List D) (n : Nat) (vs : List Value) (as : List Addr), D.hsL ds n = true → ReadsAll h vs (D.pyL ds) as → NestedAll h (D.nkL ds) vs ∧ NestedKey.depthAll (D.nkL ds) ≤ n
  | [], n, vs, as, _, r => by simp only [D.pyL] at r; cases r; exact ⟨.nil, by simp [D.nkL, NestedKey.depthAll]⟩
  | d :: ds, n, vs, as, h, r => by
    simp only [D.pyL] at r
    simp only [D.hsL, Bool.and_eq_true] at h
    cases r with
    | cons r1 r2 =>
      obtain ⟨a1, b1⟩ := nk_is d n _ _ h.1 r1
      obtain ⟨a2, b2⟩ := nk_isL ds n _ _ h.2 r2
      exact ⟨.cons a1 a2, by simp only [D.nkL, NestedKey.depthAll]; omega⟩
end
theorem stO_inj {x y : List Nat} (h : stO x = stO y) : x = y := by
  have := congrArg (fun z : Str => z.cps.toList) h
  simpa using this
mutual
theorem nk_inj : ∀ (d e : D) (n : Nat), d.like e = true → d.hs n = true → d.nk = e.nk → d = e
  | .non, e, n, h, _, _ => by cases e <;> first | (simp [D.like] at h; done) | rfl
  | .bl a, e, n, h, _, q => by
    cases e <;> first | (simp [D.like] at h; done) | skip
    rename_i b
    simp only [D.nk, NestedKey.num.injEq] at q
    cases a <;> cases b <;> first | rfl | (simp at q)
  | .int i, e, n, h, _, q => by
    cases e <;> first | (simp [D.like] at h; done) | skip
    simp only [D.nk, NestedKey.num.injEq] at q; rw [q]
  | .str x, e, n, h, _, q => by
    cases e <;> first | (simp [D.like] at h; done) | skip
    simp only [D.nk, NestedKey.text.injEq] at q; rw [stO_inj q]
  | .tup xs, e, 0, _, g, _ => by simp [D.hs] at g
  | .tup xs, e, n + 1, h, g, q => by
    cases e <;> first | (simp [D.like] at h; done) | skip
    simp only [D.nk, NestedKey.tup.injEq] at q
    rw [nk_injL xs _ n (by simpa [D.like] using h) (by simpa [D.hs] using g) q]
  | .lst _, _, n, _, g, _ => by simp [D.hs] at g
  | .dct _ _ _, _, n, _, g, _ => by simp [D.hs] at g
  | .exc _ _, _, n, _, g, _ => by simp [D.hs] at g
  | .ptp _, _, n, _, g, _ => by simp [D.hs] at g
  | .scr _, _, n, _, g, _ => by simp [D.hs] at g
theorem nk_injL : ∀ (ds es : List D) (n : Nat), D.likeL ds es = true → D.hsL ds n = true → D.nkL ds = D.nkL es → ds = es
  | [], es, n, _, _, q => by cases es <;> first | rfl | (simp [D.nkL] at q)
  | d :: ds, [], n, _, _, q => by simp [D.nkL] at q
  | d :: ds, e :: es, n, h, g, q => by
    simp only [D.likeL, Bool.and_eq_true] at h
    simp only [D.hsL, Bool.and_eq_true] at g
    simp only [D.nkL, List.cons.injEq] at q
    rw [nk_inj d e n h.1 g.1 q.1, nk_injL ds es n h.2 g.2 q.2]
end
theorem key_inj {d e : D} {k : Key} (h : d.key = some k) (h' : e.key = some k) : d = e := by
  cases d <;> cases e <;> simp only [D.key] at h h' <;> first | (cases h; done) | (cases h'; done) | skip
  · cases h; cases h'; rfl
  · cases h; cases h'
  · cases h; cases h'
  · cases h
    have : stO _ = stO _ := Sum.inr.inj (Option.some.inj h')
    rw [stO_inj this]
def okSet (ds : List D) : Bool := canSort ds && decide ((dedupD ds).length < 64) && (ds.all (·.key.isSome) || (ds.all isTup && ds.all (·.hs 8)))
def gSS : D → Option PR
  | .lst ds => if okSet ds then some (.o (.l (setD ds))) else none
  | .tup ds => if okSet ds then some (.o (.l (setD ds))) else none
  | _ => none
theorem nodup_sub {α : Type} : ∀ {l m : List α}, l.Nodup → (∀ x ∈ l, x ∈ m) → l.length ≤ m.length
  | [], m, _, _ => Nat.zero_le _
  | x :: l, m, nd, h => by
    obtain ⟨n1, n2⟩ := List.nodup_cons.mp nd
    obtain ⟨a, b, rfl⟩ := List.append_of_mem (h x (List.mem_cons_self ..))
    have q := nodup_sub (m := a ++ b) n2 fun y hy => by
      have z := h y (List.mem_cons_of_mem _ hy)
      rcases List.mem_append.mp z with z | z
      · exact List.mem_append_left _ z
      · rcases List.mem_cons.mp z with rfl | z
        · exact absurd hy n1
        · exact List.mem_append_right _ z
    simp only [List.length_append, List.length_cons] at q ⊢
    omega
section
variable {X : Cx}
theorem ss_core {κ : Type} (rd : Road X.prog X.w κ) (kf : D → κ) (hc : X.calm = true) (hu : X.A.units + 64 < cLine) {pins : List (Addr × Obj)} {s : Shared} {σ : St} {H F : Hp} {Q : VK} {l : Addr} {vs : List V} {its : List Value} {ds : List D} (I : Inv X pins σ H s) (sb : Sub F H) (rv : Vals vs its) (r1 : RepL X.K F vs ds)
    (hl : s.heap.IsList l its.toArray ∨ s.heap.IsTuple l its.toArray) (c : CanSort ds) (few : (dedupD ds).length < 64) (kis : ∀ d ∈ ds, ∀ v as, Reads s.heap v d.py as → rd.Is s.heap (kf d) v) (kinj : ∀ d ∈ ds, ∀ e ∈ ds, kf d = kf e → d = e)
    (pw : PW X.K F H (.o (.l (setD ds))) Q) : wpAny (model X.prog X.w) X.A (call (.type "set") [.ref l]) (fun v s' => wpAny (model X.prog X.w) X.A (call (.builtin "sorted") [v]) (EP X pins σ Q) X.xe s') X.xe s := by
  obtain ⟨as, ra⟩ := Dp.readsAll I (D.pyL ds) vs its (r1.dp sb (okL_of c.ok)) rv
  have er := each_reads ra
  have est := each_stands rv r1
  have hlen : its.length = ds.length := by rw [← rv.length, r1.length]
  have hmem : ∀ {us : List Value} {es : List D}, PySem.W.EachIs (fun v d => ∃ as, Reads s.heap v (D.py d) as) us es → PySem.W.EachIs (Stands X.K F) us es → ∀ q ∈ us.zip es, (∃ as, Reads s.heap q.1 q.2.py as) ∧ Stands X.K F q.1 q.2 := by
    intro us es h1 h2
    induction h1 with
    | nil => intro q hq; cases hq
    | cons a t ih =>
      cases h2 with
      | cons b t2 =>
        intro q hq
        rcases List.mem_cons.mp (by simpa using hq : q ∈ _ :: _) with rfl | hq
        · exact ⟨a, b⟩
        · exact ih t2 q hq
  have hT := hmem er est
  have hz1 : (its.zip ds).map (·.1) = its := List.map_fst_zip (by omega)
  have hz2 : (its.zip ds).map (·.2) = ds := List.map_snd_zip (by omega)
  have hks : its.toArray.toList = ((its.zip ds).map fun q => (q.1, kf q.2)).map (·.1) := by
    rw [List.map_map]
    exact hz1.symm
  have hk : ∀ p ∈ (its.zip ds).map (fun q => (q.1, kf q.2)), rd.Is s.heap p.2 p.1 := fun p hp => by
    obtain ⟨q, hq, rfl⟩ := List.mem_map.mp hp
    obtain ⟨⟨as, r⟩, _⟩ := hT q hq
    exact kis q.2 (by rw [← hz2]; exact List.mem_map.mpr ⟨q, hq, rfl⟩) _ _ r
  have hfew : FewK ((its.zip ds).map fun q => (q.1, kf q.2)) := fun ll nd hs => by
    have q := nodup_sub (m := (dedupD ds).map kf) nd fun x hx => by
      obtain ⟨p, hp, rfl⟩ := List.mem_map.mp (hs x hx)
      obtain ⟨q, hq, rfl⟩ := List.mem_map.mp hp
      refine List.mem_map.mpr ⟨q.2, ((dedup_spec c.like).2 q.2).mpr ?_, rfl⟩
      rw [← hz2]; exact List.mem_map.mpr ⟨q, hq, rfl⟩
    rw [List.length_map] at q
    omega
  have fin : ∀ (h' : Heap) (tk : Nat) (L : List (Value × κ)), rd.Rel h' s.heap.objs.size L → Kept ((its.zip ds).map fun q => (q.1, kf q.2)) ((its.zip ds).map fun q => (q.1, kf q.2)).length L → (∀ b o, s.heap.get? b = some o → h'.get? b = some o) →
      wpAny (model X.prog X.w) X.A (call (.builtin "sorted") [.ref s.heap.objs.size]) (EP X pins σ Q) X.xe { s with heap := h', toks := tk } := fun h' tk L R g k => by
    have I2 : Inv X pins σ H { s with heap := h', toks := tk } := I.kept k
    obtain ⟨M, eL, hM⟩ := sub_inv (f := fun q : Value × D => (q.1, kf q.2)) (S := its.zip ds) (L := L) fun p hp => List.mem_of_mem_take (g.sub p hp)
    have nd := rd.nd R
    rw [eL, List.map_map] at nd
    have ndM : (M.map (·.2)).Nodup := by
      have : ((M.map (·.2)).map kf).Nodup := by rw [List.map_map]; exact nd
      exact nodup_of_map this
    have mem : ∀ d, d ∈ M.map (·.2) ↔ d ∈ ds := fun d => by
      constructor
      · intro h
        obtain ⟨q, hq, rfl⟩ := List.mem_map.mp h
        rw [← hz2]; exact List.mem_map.mpr ⟨q, hM q hq, rfl⟩
      · intro h
        have h2 := h
        rw [← hz2] at h2
        obtain ⟨q, hq, rfl⟩ := List.mem_map.mp h2
        have ha := g.all (q.1, kf q.2) (by rw [List.take_length]; exact List.mem_map.mpr ⟨q, hq, rfl⟩)
        rw [eL, List.map_map] at ha
        obtain ⟨q', hq', e⟩ := List.mem_map.mp ha
        have hd' : q'.2 ∈ ds := by rw [← hz2]; exact List.mem_map.mpr ⟨q', hM q' hq', rfl⟩
        have e2 := kinj q'.2 hd' q.2 h e
        rw [← e2]
        exact List.mem_map.mpr ⟨q', hq', rfl⟩
    have cM : CanSort (M.map (·.2)) := c.sub (fun d hd => (mem d).mp hd) (nodup_sub ndM fun d hd => (mem d).mp hd)
    refine sorted_road (s := { s with heap := h', toks := tk }) rd R (I2.ok.hd hc) (M := M) (by rw [eL, List.map_map]; rfl) (fun q hq => ?_) cM hu fun s' p ov n M' k2 g2 o2 hp hg pM out => ?_
    · obtain ⟨⟨as, r⟩, _⟩ := hT q (hM q hq)
      exact ⟨as, Reads.keeps k r⟩
    · rw [setD_eq c.like ((pM.map (·.2)).nodup_iff.mpr ndM) fun d => ((pM.map (·.2)).mem_iff).trans (mem d)] at out
      have st : ∀ {us : List Value} {es : List D}, PySem.W.EachIs (fun v d => (v, d) ∈ M) us es → PySem.W.EachIs (Stands X.K F) us es := by
        intro us es h
        induction h with
        | nil => exact .nil
        | cons a t ih => exact .cons (hT _ (hM _ a)).2 ih
      obtain ⟨xs, v1, v2⟩ := stands_each (st out)
      have hn : H p = none := I2.hok.fresh hp
      have hxl : xs.length ≤ sizeLine := by
        rw [v2.length]
        have : (setD ds).length ≤ ds.length := by
          unfold setD
          rw [(sortD_perm _).length_eq]
          exact nodup_sub (dedup_spec c.like).1 fun d hd => ((dedup_spec c.like).2 d).mp hd
        exact lim_ok (Nat.le_trans this c.len)
      have J : Inv X pins σ (upd H p (.lst xs)) { ({ s with heap := h', toks := tk } : Shared) with heap := s'.heap, gens := s'.gens, drawn := s'.drawn, toks := s'.toks } :=
        I2.call (ch := []) (Un.laid k2 hp hn) (I2.hok.laid k2 hp ⟨hxl, ov, n, v1, hg⟩) (by rw [g2]; exact I2.bare) (fun _ z => nomatch z)
      have e : s' = { ({ s with heap := h', toks := tk } : Shared) with heap := s'.heap, gens := s'.gens, drawn := s'.drawn, toks := s'.toks } := by
        cases s'
        cases s
        cases o2
        rfl
      rw [e]
      exact ⟨.ref p, _, J, rfl, pw.lst sb v2 p hn⟩
  rcases hl with hl | hl
  · exact call_set_list rd _ (I.ok.hd hc) hl hks hk hfew (by omega) fin
  · exact call_set_tuple rd _ (I.ok.hd hc) hl hks hk hfew (by omega) fin
end
end U
end

section
set_option Elab.async false
set_option linter.all false
set_option maxRecDepth 100000
namespace U
open PySem PySem.Spec PyProof.Rows L2
section
variable {X : Cx} {e : Expr} {p p2 q pos : Pos} {t : TA}
theorem okSet_of {ds : List D} (h : okSet ds = true) : CanSort ds ∧ (dedupD ds).length < 64 ∧ ((∀ d ∈ ds, d.key.isSome = true) ∨ ∀ d ∈ ds, isTup d = true ∧ d.hs 8 = true) := by
  unfold okSet at h
  simp only [Bool.and_eq_true, Bool.or_eq_true, decide_eq_true_eq] at h
  refine ⟨canSort_of h.1.1, h.1.2, h.2.imp (fun z => List.all_eq_true.mp z) fun z d hd => ⟨List.all_eq_true.mp z.1 d hd, List.all_eq_true.mp z.2 d hd⟩⟩
theorem keyIs_of {h : Heap} {d : D} {k : Key} {v : Value} {as : List Addr} (e : d.key = some k) (r : Reads h v d.py as) : (mixKind X.prog X.w).is k v = true ∧ v.scannable = true := by
  cases d <;> simp only [D.key] at e <;> first | (cases e; done) | skip
  · cases e
    simp only [D.py] at r
    cases r
    exact ⟨mixKind_int _ _ _ _, rfl⟩
  · cases e
    simp only [D.py] at r
    cases r
    exact ⟨mixKind_str _ _ _ _, rfl⟩
theorem ss_any (hc : X.calm = true) (hu : X.A.units + 64 < cLine) {pins : List (Addr × Obj)} {s : Shared} {σ : St} {H F : Hp} {Q : VK} {l : Addr} {vs : List V} {its : List Value} {ds : List D} (I : Inv X pins σ H s) (sb : Sub F H) (rv : Vals vs its) (r1 : RepL X.K F vs ds)
    (hl : s.heap.IsList l its.toArray ∨ s.heap.IsTuple l its.toArray) (ok : okSet ds = true) (pw : PW X.K F H (.o (.l (setD ds))) Q) :
    wpAny (model X.prog X.w) X.A (call (.type "set") [.ref l]) (fun v s' => wpAny (model X.prog X.w) X.A (call (.builtin "sorted") [v]) (EP X pins σ Q) X.xe s') X.xe s := by
  obtain ⟨c, few, hk⟩ := okSet_of ok
  rcases hk with hk | hk
  · refine ss_core (roadS X.prog X.w) (fun d => d.key.getD (.inl 0)) hc hu I sb rv r1 hl c few (fun d hd v as r => ?_) (fun d hd e' he' q => ?_) pw
    · obtain ⟨k, ek⟩ := Option.isSome_iff_exists.mp (hk d hd)
      rw [ek]
      exact keyIs_of ek r
    · obtain ⟨k, ek⟩ := Option.isSome_iff_exists.mp (hk d hd)
      obtain ⟨k', ek'⟩ := Option.isSome_iff_exists.mp (hk e' he')
      rw [ek, ek'] at q
      have q : k = k' := q
      exact key_inj ek (by rw [q]; exact ek')
  · refine ss_core (roadT X.prog X.w) D.nk hc hu I sb rv r1 hl c few (fun d hd v as r => ?_) (fun d hd e' he' q => nk_inj d e' 8 (c.like d hd e' he') (hk d hd).2 q) pw
    obtain ⟨a, b⟩ := nk_is d 8 v as (hk d hd).2 r
    obtain ⟨xs, ex⟩ := py_tup (hk d hd).1
    rw [ex] at r
    cases r with
    | tuple h1 h2 h3 h4 => exact ⟨_, rfl, a, b⟩
theorem pe_ss (hc : X.calm = true) (hu : X.A.units + 64 < cLine) (hg : Gl X "sorted") (hm : X.mg "sorted" = none) (hg2 : Gl X "set") (hm2 : X.mg "set" = none) (ha : PA X [e] t) (na : starEach [e] X.env = (false, eval e X.env) :: starEach [] X.env) :
    PE X (.Call (.Name "sorted" p) [.Call (.Name "set" p2) [e] [] q] [] pos) (tCB (rC X.K (g1 gSS)) t) := by
  refine ⟨fun pins s σ H Q I h => ?_⟩
  refine wpAny_Call_Name_kw (ld_blt I hg hm PyProof.Rows.boot_sorted ?_ (by decide) (by decide))
  refine PyProof.Rows.callWith_builtin1 (PyProof.Rows.args_cons ?_ rfl) rfl rfl
  refine wpAny_Call_Name_kw (ld_blt I hg2 hm2 PyProof.Rows.boot_set ?_ (by decide) (by decide))
  refine PyProof.Rows.callWith_type1 (thn (ha.run q pins s σ H _ I h) fun us s1 ⟨vs, H1, I1, r1, F, ds, r, sb, n, hg, pw⟩ => ?_) na rfl
  obtain ⟨d, rfl, hg⟩ := g1_some hg
  obtain ⟨x, rfl, n1⟩ := n.one
  cases d with
  | lst ds =>
    unfold gSS at hg
    obtain ⟨c, rfl⟩ := ite_some hg
    obtain ⟨a, vs, rfl, ha, r2⟩ := n1.lst sb
    obtain ⟨its, rv, pl, _⟩ := I1.list (.inl (.of ha))
    rw [Vals.ref1 r1]
    exact thn (ss_any hc hu I1 sb rv r2 (.inl pl.isList) c pw) fun v s2 hv => PyProof.Rows.args_nil hv
  | tup ds =>
    unfold gSS at hg
    obtain ⟨c, rfl⟩ := ite_some hg
    obtain ⟨a, vs, rfl, ha, r2⟩ := n1.tup sb
    obtain ⟨its, rv, pl, _⟩ := I1.tuple (.inl (.of ha))
    rw [Vals.ref1 r1]
    exact thn (ss_any hc hu I1 sb rv r2 (.inr pl) c pw) fun v s2 hv => PyProof.Rows.args_nil hv
  | _ => cases hg
variable {px : PX} {W : WX}
/-- sorted(set(e)) -/
theorem jx_ss {f : T → Rs (List BR)} (hc : X.calm = true) (hu : X.A.units + 64 < cLine) (hg : Gl X "sorted") (hm : X.mg "sorted" = none) (hg2 : Gl X "set") (hm2 : X.mg "set" = none) (ha : JAB px W X [e] f) (na : starEach [e] X.env = (false, eval e X.env) :: starEach [] X.env) :
    JX px W X (.Call (.Name "sorted" p) [.Call (.Name "set" p2) [e] [] q] [] pos) (sCB (g1 gSS) f) := PE.imp (pe_ss hc hu hg hm hg2 hm2 ha na) fun _ _ _ h => rd_cb h
end
end U
end

section
set_option Elab.async false
set_option linter.all false
set_option maxRecDepth 100000
namespace U
open PySem PySem.Spec PyProof.Rows L2
/-! ### an own def called by keywords -/
def pick {α : Type} (is : List Nat) (l : List α) : List α := is.filterMap fun i => l[i]?
theorem vals_get : ∀ {zs : List V} {ws : List Value}, Vals zs ws → ∀ i : Nat, (zs[i]? = none ∧ ws[i]? = none) ∨ ∃ z w, zs[i]? = some z ∧ ws[i]? = some w ∧ RelV z w
  | _, _, .nil, i => .inl (by simp)
  | _, _, .cons r t, 0 => .inr ⟨_, _, rfl, rfl, r⟩
  | _, _, .cons r t, i + 1 => by simpa using vals_get t i
theorem vals_pick {zs : List V} {ws : List Value} (h : Vals zs ws) : ∀ is : List Nat, Vals (pick is zs) (pick is ws)
  | [] => .nil
  | i :: is => by
    have ih := vals_pick h is
    unfold pick at ih ⊢
    rcases vals_get h i with ⟨e1, e2⟩ | ⟨z, w, e1, e2, r⟩
    · rw [List.filterMap_cons_none e1, List.filterMap_cons_none e2]; exact ih
    · rw [List.filterMap_cons_some e1, List.filterMap_cons_some e2]; exact .cons r ih
theorem brl_get {K : PySem.W.Frag} {F : Hp} {σ : St} : ∀ {vs : List V} {bs : List BR}, BRL K F σ vs bs → ∀ i : Nat, (vs[i]? = none ∧ bs[i]? = none) ∨ ∃ z w, vs[i]? = some z ∧ bs[i]? = some w ∧ BRep K F σ z w
  | _, _, .nil, i => .inl (by simp)
  | _, _, .cons r t, 0 => .inr ⟨_, _, rfl, rfl, r⟩
  | _, _, .cons r t, i + 1 => by simpa using brl_get t i
theorem brl_pick {K : PySem.W.Frag} {F : Hp} {σ : St} {vs : List V} {bs : List BR} (h : BRL K F σ vs bs) : ∀ is : List Nat, BRL K F σ (pick is vs) (pick is bs)
  | [] => .nil
  | i :: is => by
    have ih := brl_pick h is
    unfold pick at ih ⊢
    rcases brl_get h i with ⟨e1, e2⟩ | ⟨z, w, e1, e2, r⟩
    · rw [List.filterMap_cons_none e1, List.filterMap_cons_none e2]; exact ih
    · rw [List.filterMap_cons_some e1, List.filterMap_cons_some e2]; exact .cons r ih
/-- the keywords' values, put in the parameters' order -/
def sPick (is : List Nat) (f : T → Rs (List BR)) : T → Rs (List BR) := fun τ => (f τ).bind fun bs τ1 => .ok (pick is bs) τ1
def JK (px : PX) (W : WX) (X : Cx) (kws : List Keyword) (f : T → Rs (List BR)) : Prop := PK X kws (fun σ H Q => ∃ M F τ, SRel X.K M F H σ τ ∧ Post X.K px W M F H σ (f τ) fun bs _ F' H' => ∀ vs, BRL X.K F' σ vs bs → Q vs H')
theorem PK.imp {X : Cx} {kws : List Keyword} {t t' : TA} (h : PK X kws t) (i : ∀ σ H Q, t' σ H Q → t σ H Q) : PK X kws t' := ⟨fun p pins s σ H Q I q => h.run p pins s σ H Q I (i _ _ _ q)⟩
section
variable {px : PX} {W : WX} {X : Cx} {k : Nat} {x : Str} {p pos kpos : Pos} {e : Expr} {kws : List Keyword} {nm : Option Str}
theorem jk_nil : JK px W X [] sBNil := PK.imp pk_nil fun σ H Q ⟨M, F, τ, s, p⟩ => p F H .refl s _ .nil
theorem jk_cons {f : T → Rs BR} {g : T → Rs (List BR)} (ha : JB px W X e f) (hr : JK px W X kws g) : JK px W X (⟨nm, e, kpos⟩ :: kws) (sBCons f g) :=
  PK.imp (pk_cons ha hr) fun σ H Q ⟨M, F, τ, s, p⟩ => rdB_bind s p fun d τ1 F1 H1 v g1 s1 rv p1 =>
    ⟨M, F1, τ1, s1, p1.bind.imp fun ds τ2 F2 H2 g2 s2 p2 vs rvs => p2 F2 H2 .refl s2 _ (.cons (rv.mono g2.frz) rvs)⟩
theorem run_fnKS {CX : CXT} {sp : Sp} {f : Addr} {fd : FuncData} {ps ks : List Str} {E : St → XK} {is : List Nat} {pins : List (Addr × Obj)} {σ : St} {H : Hp} {s : Shared} {Q : VK} {ws : List Value} {zs : List V} (F : FnOk X.prog X.w X.K X.mg X.base CX k f fd ps sp) (hr : Room k X.A)
    (hb : ∀ (s : Shared) (ws : List Value), ws.length = ks.length → BindsTo s fd ⟨[], ks.zip ws⟩ (ps.zip (pick is ws))) (hx : PassesAt CX X σ (E σ)) (I : Inv X pins σ H s) (rz : Vals zs ws) (l2 : zs.length = ks.length) (h : sp (pick is zs) H Q (E σ)) :
    wpAny (model X.prog X.w) X.A (call (.ref f) [] (ks.zip ws)) (EP X pins σ Q) X.xe s := by
  refine wpAny_call (codeAny_mono (F.run X.A X.stack s H ⟨[], ks.zip ws⟩ (pick is ws) (pick is zs) Q (E σ) hr I.env0 (hb s ws (rz.length.symm.trans l2)) (vals_pick rz is) h) fun r s' hq => ?_)
  cases r with
  | error e => exact hx pins H s e s' I hq
  | ok fl =>
    cases fl with
    | ret u => exact I.after hq
    | next => exact False.elim hq
    | brk => exact False.elim hq
    | cont => exact False.elim hq
theorem jk_len {f : T → Rs (List BR)} {n : Nat} (hn : ∀ τ bs τ1, f τ = .ok bs τ1 → bs.length = n) {K : PySem.W.Frag} {M : MS} {F H : Hp} {σ : St} {τ : T} {R : List BR → T → Hp → Hp → Prop} (p : Post K px W M F H σ (f τ) R) : Post K px W M F H σ (f τ) fun bs τ' F' H' => bs.length = n ∧ R bs τ' F' H' := by
  cases e : f τ with
  | ok a t => rw [e] at p; exact fun F' H' g s => ⟨hn _ _ _ e, p F' H' g s⟩
  | exc x t => rw [e] at p; exact p
  | stuck => rw [e] at p; exact p
theorem jx_ownK {den : List Sl → DR} {fa : T → Rs (List BR)} {a : Arguments} {ps ks : List Str} {is : List Nat} {m : Nat} (C : Callee X.prog X.w X.K X.mg X.base px x a ps k den) (hr : Room k X.A) (tk : Takes X W) (hg : Gl X x) (ha : JK px W X kws fa)
    (hbA : ∀ (body : List Stmt) (sc : Scope) (kV doc pm : Value) (an : Option Addr) (cdv ct : Value) (ws : List Value), ws.length = m → bindArgs (PySem.W.fnOf x x a body sc .none kV doc pm an cdv ct) ⟨[], ks.zip ws⟩ = pure (ps.zip (pick is ws)))
    (hm' : ks.length = m) (hn : ∀ τ bs τ1, fa τ = .ok bs τ1 → bs.length = m) (hn2 : ∀ τ bs τ1, sPick is fa τ = .ok bs τ1 → bs.length = ps.length)
    (hall : (backToKw pos (keywordEach kws X.env)).all (·.1.isSome) = true) (hks : (backToKw pos (keywordEach kws X.env)).filterMap (·.1) = ks) (hdb : (x == ("__debug__" : Str)) = false)
    (hpl : ((backTo pos (starEach [] X.env)).any (·.1) || (backToKw pos (keywordEach kws X.env)).any (·.1.isNone)) = false) : JX px W X (.Call (.Name x p) [] kws pos) (sCall den (sPick is fa)) := by
  obtain ⟨f, fd, F, hm, hk, _, body, sc, FD⟩ := C.ex
  have hb : ∀ (s : Shared) (ws : List Value), ws.length = ks.length → BindsTo s fd ⟨[], ks.zip ws⟩ (ps.zip (pick is ws)) := fun s ws hl => by
    obtain ⟨oc, od, dV, kV, doc, pm, an, cdv, ct, osl, rfl, lk, hcd, hD, hK⟩ := FD.ex
    rcases hD with ⟨_, rfl⟩ | ⟨e, _⟩
    · exact .of_eq (hbA _ _ kV doc pm an cdv ct ws (hl.trans hm'))
    · exact absurd rfl e
  refine ⟨fun pins s σ H Q I h => ?_⟩
  obtain ⟨M, Fz, τ, sr, pp⟩ := rd_call hn2 h
  refine wpAny_Call_Name_kw (ld_glob I hg hm ?_ hdb)
  refine PySem.W.callWith_KW0 (h₀ := X.base) I.ok.mod.kin hk hall (thn (ha.run pos pins s σ H (fun zs H2 => zs.length = ks.length ∧ spOf X.K px ps.length den (pick is zs) H2 Q (WE W σ)) I ⟨M, Fz, τ, sr, ?_⟩) fun ws s2 ⟨zs, H2, I2, rz, l2, q2⟩ => ⟨I2.kIn, ?_⟩) hpl
  · refine (jk_len hn pp.bind).imp fun bs τ1 F1 H1 g1 s1 ⟨hl, p1⟩ vs rvs => ⟨by rw [rvs.length, hl, hm'], p1 F1 H1 .refl s1 _ (brl_pick rvs is)⟩
  · rw [hks]
    exact run_fnKS F hr hb (passAt tk σ) I2 rz l2 q2
theorem blP {f : T → Rs (List BR)} {is : List Nat} {m n : Nat} (h : ∀ τ bs τ1, f τ = .ok bs τ1 → bs.length = m) (hp : ∀ bs : List BR, bs.length = m → (pick is bs).length = n) : ∀ τ bs τ1, sPick is f τ = .ok bs τ1 → bs.length = n := fun τ bs τ1 e => by
  unfold sPick at e
  cases ef : f τ with
  | stuck => rw [ef] at e; cases e
  | exc x t => rw [ef] at e; cases e
  | ok b t =>
    rw [ef] at e
    cases e
    exact hp _ (h _ _ _ ef)
end
theorem evl5 : (∀ is f τ, sPick is f τ = (f τ).bind fun bs τ1 => .ok (pick is bs) τ1) ∧ (∀ (α : Type) (l : List α), pick [] l = []) ∧ (∀ (i : Nat) (is : List Nat) (l : List BR) (b : BR), l[i]? = some b → pick (i :: is) l = b :: pick is l) :=
  ⟨fun _ _ _ => rfl, fun _ _ => rfl, fun i is l b h => List.filterMap_cons_some h⟩
end U
end

section
set_option Elab.async false
set_option linter.all false
set_option maxRecDepth 100000
namespace U
open PySem PySem.Spec PyProof.Rows L2
/-! loops and comprehensions by name -/
def sForB (it : T → Rs (List D)) (body : D → T → SR) : T → SR := fun τ => (it τ).s fun ds τ1 => forL body ds τ1
def sLcB (it : T → Rs (List D)) (tc : D → T → Rs (Option D)) (vs : List Nat) : T → Rs PR := fun τ => (it τ).bind fun ds τ1 => (compL tc ds (wipeT τ1 vs) []).bind fun acc τ2 => .ok (.o (.l acc)) (restT τ1 vs τ2)
theorem evl6 : (∀ it body τ, sForB it body τ = (it τ).s fun ds τ1 => forL body ds τ1) ∧ (∀ it tc vs τ, sLcB it tc vs τ = (it τ).bind fun ds τ1 => (compL tc ds (wipeT τ1 vs) []).bind fun acc τ2 => .ok (.o (.l acc)) (restT τ1 vs τ2)) := ⟨fun _ _ _ => rfl, fun _ _ _ _ => rfl⟩
end U
end

section
set_option Elab.async false
set_option linter.all false
set_option maxRecDepth 100000
namespace U
open PySem PySem.Spec PyProof.Rows L2
/-! ### typed data: names, sets of names -/
abbrev Nm := List Nat
abbrev NS := List Nm
def GN (x : Nm) : Prop := x.all (· < 0x110000) = true
def nmD (x : Nm) : D := .str x
def setT (s : NS) : D := .tup (s.map nmD)
def setL (s : NS) : D := .lst (s.map nmD)
def lotT (l : List NS) : D := .tup (l.map setT)
def lotL (l : List NS) : D := .lst (l.map setL)
/-! sorts of encoded data -/
def ins {α : Type} (lt : α → α → Bool) (a : α) : List α → List α
  | [] => [a]
  | b :: l => if !lt b a then a :: b :: l else b :: ins lt a l
def isort {α : Type} (lt : α → α → Bool) : List α → List α
  | [] => []
  | a :: l => ins lt a (isort lt l)
def dd {α : Type} [DecidableEq α] : List α → List α
  | [] => []
  | a :: l => if a ∈ l then dd l else a :: dd l
theorem ins_perm {α : Type} {lt : α → α → Bool} (a : α) : ∀ l : List α, (ins lt a l).Perm (a :: l)
  | [] => .refl _
  | b :: l => by
    unfold ins
    split
    · exact .refl _
    · exact ((ins_perm a l).cons b).trans (.swap ..)
theorem isort_perm {α : Type} {lt : α → α → Bool} : ∀ l : List α, (isort lt l).Perm l
  | [] => .refl _
  | a :: l => (ins_perm a _).trans ((isort_perm l).cons a)
theorem dd_mem {α : Type} [DecidableEq α] : ∀ {l : List α} {a : α}, a ∈ dd l ↔ a ∈ l
  | [], a => Iff.rfl
  | b :: l, a => by
    unfold dd
    split
    · rename_i h
      rw [dd_mem, List.mem_cons]
      exact ⟨.inr, fun z => z.elim (fun e => e ▸ h) id⟩
    · rw [List.mem_cons, List.mem_cons, dd_mem]
theorem dd_nodup {α : Type} [DecidableEq α] : ∀ l : List α, (dd l).Nodup
  | [] => List.nodup_nil
  | b :: l => by
    unfold dd
    split
    · exact dd_nodup l
    · rename_i h
      exact List.nodup_cons.mpr ⟨fun z => h (dd_mem.mp z), dd_nodup l⟩
theorem dd_id {α : Type} [DecidableEq α] : ∀ {l : List α}, l.Nodup → dd l = l
  | [], _ => rfl
  | a :: l, h => by
    obtain ⟨h1, h2⟩ := List.nodup_cons.mp h
    unfold dd
    rw [if_neg h1, dd_id h2]
/-- a strict order -/
structure Ord {α : Type} (lt : α → α → Bool) : Prop where
  irr : ∀ a, lt a a = false
  tr : ∀ a b c, lt a b = true → lt b c = true → lt a c = true
  tri : ∀ a b, lt a b = true ∨ a = b ∨ lt b a = true
def Up {α : Type} (lt : α → α → Bool) (l : List α) : Prop := l.Pairwise fun a b => lt a b = true
theorem Ord.asym {α : Type} {lt : α → α → Bool} (O : Ord lt) {a b : α} (h : lt a b = true) : lt b a = false := by
  cases q : lt b a with
  | false => rfl
  | true => rw [← O.irr a, ← O.tr a b a h q]
theorem ins_up {α : Type} {lt : α → α → Bool} (O : Ord lt) {a : α} : ∀ {l : List α}, a ∉ l → Up lt l → Up lt (ins lt a l)
  | [], _, _ => List.pairwise_singleton _ _
  | b :: l, hn, h => by
    obtain ⟨h1, h2⟩ := List.pairwise_cons.mp h
    have hab : a ≠ b := fun e => hn (e ▸ List.mem_cons_self ..)
    unfold ins
    cases q : lt b a with
    | false =>
      have hlt : lt a b = true := by
        rcases O.tri a b with z | z | z
        · exact z
        · exact absurd z hab
        · rw [q] at z; cases z
      refine List.pairwise_cons.mpr ⟨fun x hx => ?_, h⟩
      rcases List.mem_cons.mp hx with rfl | hx
      · exact hlt
      · exact O.tr _ _ _ hlt (h1 x hx)
    | true =>
      refine List.pairwise_cons.mpr ⟨fun x hx => ?_, ins_up O (fun z => hn (List.mem_cons_of_mem _ z)) h2⟩
      rcases List.mem_cons.mp ((ins_perm a l).mem_iff.mp hx) with rfl | hx
      · exact q
      · exact h1 x hx
theorem isort_up {α : Type} {lt : α → α → Bool} (O : Ord lt) : ∀ {l : List α}, l.Nodup → Up lt (isort lt l)
  | [], _ => List.Pairwise.nil
  | a :: l, h => by
    obtain ⟨h1, h2⟩ := List.nodup_cons.mp h
    exact ins_up O (fun z => h1 ((isort_perm l).mem_iff.mp z)) (isort_up O h2)
theorem up_nodup {α : Type} {lt : α → α → Bool} (O : Ord lt) {l : List α} (h : Up lt l) : l.Nodup := h.imp fun {a b} q e => by subst e; rw [O.irr] at q; cases q
theorem up_one {α : Type} {lt : α → α → Bool} (O : Ord lt) {l m : List α} (hl : Up lt l) (hm : Up lt m) (h : ∀ x, x ∈ l ↔ x ∈ m) : l = m :=
  sorted_one (le := fun a b => lt a b = true) ((List.perm_ext_iff_of_nodup (up_nodup O hl) (up_nodup O hm)).mpr h) hl hm fun a _ b _ h1 h2 => by rw [O.asym h1] at h2; cases h2
/-- the set of some, as a list -/
def sof' {α : Type} [DecidableEq α] (lt : α → α → Bool) (l : List α) : List α := isort lt (dd l)
theorem sof_mem {α : Type} [DecidableEq α] {lt : α → α → Bool} {l : List α} {a : α} : a ∈ sof' lt l ↔ a ∈ l := by
  unfold sof'
  rw [(isort_perm _).mem_iff, dd_mem]
theorem sof_up {α : Type} [DecidableEq α] {lt : α → α → Bool} (O : Ord lt) (l : List α) : Up lt (sof' lt l) := isort_up O (dd_nodup l)
theorem sof_eq {α : Type} [DecidableEq α] {lt : α → α → Bool} (O : Ord lt) {l m : List α} (h : ∀ x, x ∈ l ↔ x ∈ m) : sof' lt l = sof' lt m := up_one O (sof_up O l) (sof_up O m) fun x => by rw [sof_mem, sof_mem, h x]
theorem sof_id {α : Type} [DecidableEq α] {lt : α → α → Bool} (O : Ord lt) {l : List α} (h : Up lt l) : sof' lt l = l := up_one O (sof_up O l) h fun x => sof_mem
theorem isort_sof {α : Type} [DecidableEq α] {lt : α → α → Bool} (l : List α) (h : l.Nodup) : isort lt l = sof' lt l := by unfold sof'; rw [dd_id h]
/-! from typed data to D -/
theorem insD_map {α : Type} {lt : α → α → Bool} {enc : α → D} (h : ∀ a b, (enc a).lt (enc b) = lt a b) (a : α) : ∀ l : List α, insD (enc a) (l.map enc) = (ins lt a l).map enc
  | [] => rfl
  | b :: l => by
    rw [List.map_cons]
    unfold insD ins leD
    rw [h]
    cases lt b a with
    | false => rfl
    | true => simp only [Bool.not_true, Bool.false_eq_true, if_false, List.map_cons]; rw [insD_map h a l]
theorem sortD_map {α : Type} {lt : α → α → Bool} {enc : α → D} (h : ∀ a b, (enc a).lt (enc b) = lt a b) : ∀ l : List α, sortD (l.map enc) = (isort lt l).map enc
  | [] => rfl
  | a :: l => by
    rw [List.map_cons]
    show insD (enc a) (sortD (l.map enc)) = _
    rw [sortD_map h l, insD_map h]; rfl
def inB {α : Type} [DecidableEq α] (a : α) (l : List α) : Bool := decide (a ∈ l)
theorem inB_iff {α : Type} [DecidableEq α] {a : α} {l : List α} : inB a l = true ↔ a ∈ l := by unfold inB; exact decide_eq_true_iff
theorem inB_no {α : Type} [DecidableEq α] {a : α} {l : List α} : inB a l = false ↔ a ∉ l := by unfold inB; exact decide_eq_false_iff_not
theorem mem_enc {α : Type} [DecidableEq α] {enc : α → D} (h : ∀ a b, (enc a).eqb (enc b) = decide (a = b)) (a : α) (l : List α)   : (enc a).mem (l.map enc) = inB a l := by
  unfold D.mem inB
  rw [List.any_map]
  by_cases c : a ∈ l
  · rw [decide_eq_true c, List.any_eq_true]
    exact ⟨a, c, by simp [h]⟩
  · rw [decide_eq_false c, List.any_eq_false]
    intro b hb
    simp only [Function.comp, h, decide_eq_true_eq]
    exact fun e => c (e ▸ hb)
theorem dedupD_map {α : Type} [DecidableEq α] {enc : α → D} (h : ∀ a b, (enc a).eqb (enc b) = decide (a = b)) : ∀ l : List α, dedupD (l.map enc) = (dd l).map enc
  | [] => rfl
  | a :: l => by
    rw [List.map_cons]
    unfold dedupD dd
    rw [mem_enc h]
    by_cases c : a ∈ l
    · rw [inB_iff.mpr c, if_pos rfl, if_pos c, dedupD_map h l]
    · rw [inB_no.mpr c, if_neg (by simp), if_neg c, dedupD_map h l]; rfl
theorem setD_map {α : Type} [DecidableEq α] {lt : α → α → Bool} {enc : α → D} (h : ∀ a b, (enc a).eqb (enc b) = decide (a = b)) (h2 : ∀ a b, (enc a).lt (enc b) = lt a b) (l : List α) : setD (l.map enc) = (sof' lt l).map enc := by
  unfold setD sof'
  rw [dedupD_map h, sortD_map h2]
/-! the two encodings -/
def ltN (a b : Nm) : Bool := decide (a < b)
def ltS (a b : NS) : Bool := decide (a < b)
theorem nm_eqb (a b : Nm) : (nmD a).eqb (nmD b) = decide (a = b) := by
  simp only [nmD, D.eqb]
  by_cases h : a = b <;> simp [h]
theorem nm_lt (a b : Nm) : (nmD a).lt (nmD b) = ltN a b := by simp only [nmD, D.lt, ltN]
theorem nms_eqb : ∀ a b : NS, D.eqbL (a.map nmD) (b.map nmD) = decide (a = b)
  | [], [] => by simp [D.eqbL]
  | [], b :: bs => by simp [D.eqbL]
  | a :: as, [] => by simp [D.eqbL]
  | a :: as, b :: bs => by
    simp only [List.map_cons, D.eqbL, nm_eqb, nms_eqb as bs]
    by_cases h : a = b <;> by_cases h' : as = bs <;> simp [h, h']
theorem set_eqb (a b : NS) : (setT a).eqb (setT b) = decide (a = b) := by simp only [setT, D.eqb]; exact nms_eqb a b
theorem nms_lt : ∀ a b : NS, D.ltL (a.map nmD) (b.map nmD) = decide (a < b)
  | [], [] => by simp [D.ltL]
  | [], b :: bs => by simp [D.ltL]
  | a :: as, [] => by simp [D.ltL]
  | a :: as, b :: bs => by
    simp only [List.map_cons, D.ltL, nm_eqb, nms_lt as bs, nm_lt, ltN]
    by_cases h : a = b
    · subst h; simp [List.cons_lt_cons_iff]
    · simp [h, List.cons_lt_cons_iff]
theorem set_lt (a b : NS) : (setT a).lt (setT b) = ltS a b := by simp only [setT, D.lt, ltS]; exact nms_lt a b
theorem ordNat : ∀ a b : Nm, a < b ∨ a = b ∨ b < a := fun a b => by
  rcases Classical.em (a < b) with h | h
  · exact .inl h
  · rcases Classical.em (b < a) with h' | h'
    · exact .inr (.inr h')
    · exact .inr (.inl (List.le_antisymm (List.not_lt.mp h') (List.not_lt.mp h)))
theorem oN : Ord ltN := ⟨fun a => by simp [ltN, List.lt_irrefl], fun a b c h1 h2 => by simp only [ltN, decide_eq_true_eq] at *; exact List.lt_trans h1 h2, fun a b => by simp only [ltN, decide_eq_true_eq]; exact ordNat a b⟩
theorem oS : Ord ltS := ⟨fun a => by simp [ltS, List.lt_irrefl], fun a b c h1 h2 => by simp only [ltS, decide_eq_true_eq] at *; exact List.lt_trans h1 h2, fun a b => by
  simp only [ltS, decide_eq_true_eq]
  rcases Classical.em (a < b) with h | h
  · exact .inl h
  · rcases Classical.em (b < a) with h' | h'
    · exact .inr (.inr h')
    · exact .inr (.inl (List.le_antisymm (List.not_lt.mp h') (List.not_lt.mp h)))⟩
end U
end

section
set_option Elab.async false
set_option linter.all false
set_option maxRecDepth 100000
namespace U
open PySem PySem.Spec PyProof.Rows L2
/-! dict comprehensions, keys ints or texts -/
def putP (acc : List (D × D)) (k v : D) : List (D × D) :=
  if (acc.any fun p => p.1.eqb k) = true then acc.map (fun p => if p.1.eqb k = true then (p.1, v) else p) else acc ++ [(k, v)]
def turnK (g : D → T → Option T) (tt : T → Rs Bool) (ek ev : T → Rs D) (vs : List Nat) : D → T → Rs (Option (D × D)) := fun d τ => match g d τ with
  | none => .stuck
  | some τ1 => match tt τ1 with
    | .ok false τ2 => .ok none (wipeT τ2 vs)
    | .ok true τ2 => (match ek τ2 with
      | .ok k τ3 => (match ev τ3 with
        | .ok z τ4 => .ok (some (k, z)) (wipeT τ4 vs)
        | _ => .stuck)
      | _ => .stuck)
    | _ => .stuck
def compK (f : D → T → Rs (Option (D × D))) : List D → T → List (D × D) → Rs (List (D × D))
  | [], τ, acc => .ok acc τ
  | d :: ds, τ, acc => match f d τ with
    | .ok (some (k, z)) τ1 => if acc.length < lim then (match k.key with
      | some _ => compK f ds τ1 (putP acc k z)
      | none => .stuck) else .stuck
    | .ok none τ1 => compK f ds τ1 acc
    | _ => .stuck
def sDc (fi : T → Rs (List D)) (g : D → T → Option T) (tt : T → Rs Bool) (ek ev : T → Rs D) (vs : List Nat) : T → Rs PR := fun τ => (fi τ).bind fun ds τ1 => (compK (turnK g tt ek ev vs) ds (wipeT τ1 vs) []).bind fun acc τ2 => .ok (.o (.d false (acc.map (·.1)) (acc.map (·.2)))) (restT τ1 vs τ2)
/-- pairs of a dict -/
inductive RepK (K : PySem.W.Frag) (F : Hp) : List (Key × V) → List (D × D) → Prop
  | nil : RepK K F [] []
  | cons {k : Key} {v : V} {kvs : List (Key × V)} {a b : D} {ps : List (D × D)} : a.key = some k → Rep K F v b → RepK K F kvs ps → RepK K F ((k, v) :: kvs) ((a, b) :: ps)
section
variable {K : PySem.W.Frag} {F F' : Hp}
theorem RepK.mono (e : Sub F F') : ∀ {kvs : List (Key × V)} {ps : List (D × D)}, RepK K F kvs ps → RepK K F' kvs ps
  | _, _, .nil => .nil
  | _, _, .cons h r q => .cons h (r.mono e) (RepK.mono e q)
theorem RepK.length : ∀ {kvs : List (Key × V)} {ps : List (D × D)}, RepK K F kvs ps → kvs.length = ps.length
  | _, _, .nil => rfl
  | _, _, .cons h r q => by rw [List.length_cons, List.length_cons, RepK.length q]
theorem RepK.keys : ∀ {kvs : List (Key × V)} {ps : List (D × D)}, RepK K F kvs ps → keysOf (ps.map (·.1)) = some (kvs.map (·.1))
  | _, _, .nil => rfl
  | _, _, .cons h r q => by simp only [List.map_cons, keysOf, h, RepK.keys q]
theorem RepK.vals : ∀ {kvs : List (Key × V)} {ps : List (D × D)}, RepK K F kvs ps → RepL K F (kvs.map (·.2)) (ps.map (·.2))
  | _, _, .nil => .nil
  | _, _, .cons h r q => .cons r (RepK.vals q)
theorem RepK.own {kvs : List (Key × V)} {ps : List (D × D)} (h : RepK K F kvs ps) : OwnO K F (.d false (ps.map (·.1)) (ps.map (·.2))) (.dK kvs) := .dK h.keys h.vals
theorem RepK.app : ∀ {kvs ws : List (Key × V)} {ps qs : List (D × D)}, RepK K F kvs ps → RepK K F ws qs → RepK K F (kvs ++ ws) (ps ++ qs)
  | _, _, _, _, .nil, q => q
  | _, _, _, _, .cons h r z, q => .cons h r (RepK.app z q)
theorem RepK.any {d : D} {k : Key} (hk : d.key = some k) : ∀ {kvs : List (Key × V)} {ps : List (D × D)}, RepK K F kvs ps → (ps.any fun p => p.1.eqb d) = kvs.any fun kv => decide (kv.1 = k)
  | _, _, .nil => rfl
  | _, _, .cons h r q => by rw [List.any_cons, List.any_cons, RepK.any hk q, key_eqb h hk]
theorem RepK.repl {d b : D} {k : Key} {v : V} (hk : d.key = some k) (rv : Rep K F v b) : ∀ {kvs : List (Key × V)} {ps : List (D × D)}, RepK K F kvs ps → RepK K F (kvs.map fun kv => if kv.1 = k then (kv.1, v) else kv) (ps.map fun p => if p.1.eqb d = true then (p.1, b) else p)
  | _, _, .nil => .nil
  | _, _, .cons (k := k') (a := a) h r q => by
    rw [List.map_cons, List.map_cons]
    have e := key_eqb h hk
    by_cases c : k' = k
    · rw [decide_eq_true c] at e
      simp only [c, e, if_true]
      exact .cons (by rw [← c]; exact h) rv (RepK.repl hk rv q)
    · rw [decide_eq_false c] at e
      simp only [c, e, if_false, Bool.false_eq_true]
      exact .cons h r (RepK.repl hk rv q)
theorem RepK.put {d b : D} {k : Key} {v : V} {kvs : List (Key × V)} {ps : List (D × D)} (q : RepK K F kvs ps) (hk : d.key = some k) (rv : Rep K F v b) : RepK K F (putK kvs k v) (putP ps d b) := by
  unfold putK putP
  rw [q.any hk]
  by_cases c : (kvs.any fun kv => decide (kv.1 = k)) = true
  · rw [if_pos c, if_pos c]; exact q.repl hk rv
  · rw [if_neg c, if_neg c]; exact q.app (.cons hk rv .nil)
end
theorem turnK_wiped {g : D → T → Option T} {tt : T → Rs Bool} {ek ev : T → Rs D} {vs : List Nat} {d : D} {τ t : T} {z : Option (D × D)} (q : turnK g tt ek ev vs d τ = .ok z t) : ∀ (i : Nat) (sl : Sl), t[i]? = some sl → sl ≠ .no → i ∉ vs := by
  unfold turnK at q
  cases e1 : g d τ with
  | none => rw [e1] at q; cases q
  | some τ1 =>
    simp only [e1] at q
    cases e2 : tt τ1 with
    | stuck => rw [e2] at q; cases q
    | exc x t => rw [e2] at q; cases q
    | ok b τ2 =>
      rw [e2] at q
      cases b with
      | false => cases q; exact fun i sl a b => wipeT_get a b
      | true =>
        simp only at q
        cases e3 : ek τ2 with
        | stuck => rw [e3] at q; cases q
        | exc x t => rw [e3] at q; cases q
        | ok k τ3 =>
          simp only [e3] at q
          cases e4 : ev τ3 with
          | stuck => rw [e4] at q; cases q
          | exc x t => rw [e4] at q; cases q
          | ok v τ4 => rw [e4] at q; cases q; exact fun i sl a b => wipeT_get a b
theorem compK_wiped {f : D → T → Rs (Option (D × D))} {vs : List Nat} (hf : ∀ d τ z t, f d τ = .ok z t → ∀ (i : Nat) (sl : Sl), t[i]? = some sl → sl ≠ .no → i ∉ vs) : ∀ (ds : List D) (τ : T) (acc out : List (D × D)) (τ' : T), (∀ (i : Nat) (sl : Sl), τ[i]? = some sl → sl ≠ .no → i ∉ vs) →
    compK f ds τ acc = .ok out τ' → ∀ (i : Nat) (sl : Sl), τ'[i]? = some sl → sl ≠ .no → i ∉ vs
  | [], τ, acc, out, τ', h, e => by
    cases e; exact h
  | d :: ds, τ, acc, out, τ', h, e => by
    unfold compK at e
    cases q : f d τ with
    | stuck => rw [q] at e; cases e
    | exc x t => rw [q] at e; cases e
    | ok z t =>
      have hw := hf d τ z t q
      cases z with
      | none => rw [q] at e; exact compK_wiped hf ds t acc out τ' hw e
      | some z =>
        obtain ⟨k, z⟩ := z
        simp only [q] at e
        by_cases c : acc.length < lim
        · rw [if_pos c] at e
          cases ek : k.key with
          | none => rw [ek] at e; cases e
          | some k' => rw [ek] at e; exact compK_wiped hf ds t _ out τ' hw e
        · rw [if_neg c] at e; cases e
theorem compK_noexc {f : D → T → Rs (Option (D × D))} : ∀ (ds : List D) (τ : T) (acc : List (D × D)) (x : Ex) (t : T), compK f ds τ acc ≠ .exc x t
  | [], τ, acc, x, t, e => by cases e
  | d :: ds, τ, acc, x, t, e => by
    unfold compK at e
    cases q : f d τ with
    | stuck => rw [q] at e; cases e
    | exc x t => rw [q] at e; cases e
    | ok z t' =>
      cases z with
      | none => rw [q] at e; exact compK_noexc ds t' acc x t e
      | some z =>
        obtain ⟨k, z⟩ := z
        simp only [q] at e
        by_cases c : acc.length < lim
        · rw [if_pos c] at e
          cases ek : k.key with
          | none => rw [ek] at e; cases e
          | some k' => rw [ek] at e; exact compK_noexc ds t' _ x t e
        · rw [if_neg c] at e; cases e
section
variable {px : PX} {W : WX} {X : Cx} {pos : Pos} {tg iter kx vx : Expr} {ifs : List Expr} {scope : Scope} {own : List (Str × Nat)}
theorem rd_dc {fi : T → Rs (List D)} {g : D → T → Option T} {tt : T → Rs Bool} {ek ev : T → Rs D} {σ : St} {H : Hp} {Q : VK} {K : PySem.W.Frag} {vs : List Nat} (h : rdX K px W (sDc fi g tt ek ev vs) σ H Q) :
    tDc (rdI K px W fi) (rdG K vs g) (rdT K px W0 tt) (rdE K px W0 ek) (rdE K px W0 ev) vs σ H Q := by
  obtain ⟨M, F, τ, s, p⟩ := h
  refine ⟨M, F, τ, s, p.bind.imp fun ds τ1 F1 H1 g1 s1 p1 J cf => fun A hA => ?_⟩
  cases ec : compK (turnK g tt ek ev vs) ds (wipeT τ1 vs) [] with
  | stuck => rw [ec] at p1; exact p1.elim
  | exc x t => exact absurd ec (compK_noexc _ _ _ _ _)
  | ok out τo =>
    rw [ec] at p1
    have p1 : Post K px W M F1 H1 σ (.ok (.o (.d false (out.map (·.1)) (out.map (·.2)))) (restT τ1 vs τo)) (RX K M σ Q) := p1
    have hwo := compK_wiped (fun _ _ _ _ q => turnK_wiped q) ds _ _ out τo (fun i sl a b => wipeT_get a b) ec
    have hf1 : F1 A = none := s1.new (o := .dK []) hA
    have fo := s1.fresh_own (u := .dK []) (o := .d false [] []) hA (.dK rfl .nil)
    refine ⟨fun i m H' => ∃ F' τ' acc accV, m = ds.length - i ∧ i ≤ ds.length ∧ Sub F1 F' ∧ Grow M F1 H1 F' H' ∧ SRel K (M.but A) F' H' (wipe σ vs) τ' ∧ H' A = some (.dK accV) ∧ F' A = none ∧ RepK K F' accV acc ∧ (∀ (i : Nat) (sl : Sl), τ'[i]? = some sl → sl ≠ .no → i ∉ vs) ∧
      compK (turnK g tt ek ev vs) (ds.drop i) τ' acc = .ok out τo, ⟨ds.length, F1, wipeT τ1 vs, [], [], by simp, Nat.zero_le _, Sub.refl _, grow_alloc hA, ?_, upd_same, hf1, .nil, fun i sl a b => wipeT_get a b, ec⟩, ?_⟩
    · refine SRel.but (u := .dK []) ((s1.alloc hA).wiped vs) upd_same fun i sl e m z => ?_
      obtain ⟨a', u, e', _, _, _, _, hx⟩ := fo
      cases e'
      have hn : i ∉ vs := wipeT_get e fun q => by subst q; exact m rfl
      have hz : σ[i]? = some (some (V.ref A)) := (wipe_some z).1
      obtain ⟨o, hm⟩ := Option.ne_none_iff_exists'.mp m
      have hs := (s1.alloc (o := .dK []) hA).wiped vs
      obtain ⟨b, w, h1, h2, h3, h4, h5⟩ := (s1.wiped vs).own i sl o e hm
      rw [h1] at z
      cases z
      rw [hA] at h2
      cases h2
    · rintro i m H' ⟨F', τ', acc, accV, rfl, hi, sf, gg, s', hA', hf', ra, hw, hc⟩
      by_cases hlt : i < ds.length
      · refine .inr ⟨cf.go i H' hlt (sf.trans s'.sub), fun H3 => ∃ F3 τ3 acc3 accV3, Sub F1 F3 ∧ Grow M F1 H1 F3 H3 ∧ SRel K (M.but A) F3 H3 (wipe σ vs) τ3 ∧ H3 A = some (.dK accV3) ∧ F3 A = none ∧ RepK K F3 accV3 acc3 ∧ (∀ (i : Nat) (sl : Sl), τ3[i]? = some sl → sl ≠ .no → i ∉ vs) ∧ compK (turnK g tt ek ev vs) (ds.drop (i + 1)) τ3 acc3 = .ok out τo,
          fun H3 ⟨F3, τ3, c3, v3, a1, a2, a3, a4, a5, a6, a7, a8⟩ => ⟨ds.length - (i + 1), by omega, F3, τ3, c3, v3, rfl, hlt, a1, a2, a3, a4, a5, a6, a7, a8⟩, fun x H2 y => ?_⟩
        have hd : ds[i]? = some ds[i] := by simp [hlt]
        obtain ⟨F2, n2, r2⟩ := cf.yld i F' H' x H2 _ hd sf s'.sub y
        have s2 := n2.srel s'
        rw [List.drop_eq_getElem_cons hlt] at hc
        unfold compK at hc
        cases eg : g ds[i] τ' with
        | none => simp only [turnK, eg] at hc; cases hc
        | some τ2 =>
          simp only [turnK, eg] at hc
          refine ⟨M.but A, F2, τ', ds[i], τ2, s2, r2, eg, fun σ2 o2 s2' => ⟨?_, M.but A, F2, τ2, s2', ?_⟩⟩
          · apply List.ext_getElem?
            intro j
            by_cases hj : j ∈ vs
            · by_cases hl : j < σ.length
              · have e1 : ∀ σ' : St, j < σ'.length → (wipe σ' vs)[j]? = some none := fun σ' hl' => by
                  cases q : (wipe σ' vs)[j]? with
                  | none => rw [List.getElem?_eq_none_iff, wipe_length] at q; omega
                  | some v => cases v with
                    | none => rfl
                    | some v => exact absurd hj (wipe_some q).2
                have hl2 : σ2.length = σ.length := by rw [o2.1, wipe_length]
                rw [e1 σ hl, e1 σ2 (by omega)]
              · have hl2 : σ2.length = σ.length := by rw [o2.1, wipe_length]
                rw [List.getElem?_eq_none (by rw [wipe_length]; omega), List.getElem?_eq_none (by rw [wipe_length]; omega)]
            · rw [wipe_out hj, o2.2 j hj]
          · cases et : tt τ2 with
            | stuck => simp only [et] at hc; cases hc
            | exc x t => simp only [et] at hc; cases hc
            | ok k τ3 =>
              intro F3 H3 g3 s3
              have wp2 : wipe σ2 vs = wipe σ vs := by
                apply List.ext_getElem?
                intro j
                by_cases hj : j ∈ vs
                · by_cases hl : j < σ.length
                  · have e1 : ∀ σ' : St, j < σ'.length → (wipe σ' vs)[j]? = some none := fun σ' hl' => by
                      cases q : (wipe σ' vs)[j]? with
                      | none => rw [List.getElem?_eq_none_iff, wipe_length] at q; omega
                      | some v => cases v with
                        | none => rfl
                        | some v => exact absurd hj (wipe_some q).2
                    have hl2 : σ2.length = σ.length := by rw [o2.1, wipe_length]
                    rw [e1 σ hl, e1 σ2 (by omega)]
                  · have hl2 : σ2.length = σ.length := by rw [o2.1, wipe_length]
                    rw [List.getElem?_eq_none (by rw [wipe_length]; omega), List.getElem?_eq_none (by rw [wipe_length]; omega)]
                · rw [wipe_out hj, o2.2 j hj]
              have hnA : ¬ (M.but A).m A := fun z => z.2 rfl
              have G3 : Grow M F1 H1 F3 H3 := gg.trans ((n2.grow (M := M)).trans g3.unbut)
              have hA2 : H2 A = some (.dK accV) := n2.keep _ _ hA'
              have hA3 : H3 A = some (.dK accV) := g3.keep A _ hA2 hnA
              have hf2 : F2 A = none := n2.free A hf' (by rw [hA']; exact fun z => nomatch z)
              have hf3 : F3 A = none := g3.free A hf2 (by rw [hA2]; exact fun z => nomatch z) hnA
              have ra3 : RepK K F3 accV acc := ra.mono (n2.frz.trans g3.frz)
              have sf3 : Sub F1 F3 := sf.trans (n2.frz.trans g3.frz)
              cases k with
              | false =>
                simp only [et] at hc
                show (if false = true then _ else _)
                rw [if_neg Bool.false_ne_true]
                exact ⟨F3, wipeT τ3 vs, acc, accV, sf3, G3, by rw [← wp2]; exact s3.wiped vs, hA3, hf3, ra3, fun i sl a b => wipeT_get a b, hc⟩
              | true =>
                show (if true = true then _ else _)
                rw [if_pos rfl]
                cases ee : ek τ3 with
                | stuck => simp only [et, ee] at hc; cases hc
                | exc x t => simp only [et, ee] at hc; cases hc
                | ok zk τ4 =>
                  cases e5 : ev τ4 with
                  | stuck => simp only [et, ee, e5] at hc; cases hc
                  | exc x t => simp only [et, ee, e5] at hc; cases hc
                  | ok z τ5 =>
                  simp only [et, ee, e5] at hc
                  by_cases cl : acc.length < lim
                  · rw [if_pos cl] at hc
                    cases ek' : zk.key with
                    | none => rw [ek'] at hc; cases hc
                    | some k =>
                    rw [ek'] at hc
                    refine ⟨M.but A, F3, τ3, s3, ?_⟩
                    rw [ee]
                    intro F4 H4 g4 s4 y ry
                    have ey : y = kV k := key_rep ek' ry
                    have hA4 : H4 A = some (.dK accV) := g4.keep A _ hA3 hnA
                    have hf4 : F4 A = none := g4.free A hf3 (by rw [hA3]; exact fun z => nomatch z) hnA
                    have ra4 := ra3.mono g4.frz
                    refine ⟨M.but A, F4, τ4, s4, ?_⟩
                    rw [e5]
                    intro F5 H5 g5 s5 v rv
                    have hA5 : H5 A = some (.dK accV) := g5.keep A _ hA4 hnA
                    have hf5 : F5 A = none := g5.free A hf4 (by rw [hA4]; exact fun z => nomatch z) hnA
                    have ra5 := ra4.mono g5.frz
                    refine ⟨accV, k, ey, hA5, by rw [ra.length]; exact lim_lt cl, F5, wipeT τ5 vs, putP acc zk z, putK accV k v, sf3.trans (g4.frz.trans g5.frz), ?_, ?_, upd_same, hf5, ra5.put ek' rv, fun i sl a b => wipeT_get a b, hc⟩
                    · refine ((G3.trans g4.unbut).trans g5.unbut).trans (but_step hA5 ?_)
                      exact s1.up A hA
                    · rw [← wp2]; exact (s5.wiped vs).butStep hA5 hf5
                  · rw [if_neg cl] at hc; cases hc
      · have e : i = ds.length := by omega
        subst e
        rw [List.drop_length] at hc
        cases hc
        refine .inl ⟨cf.stop H' (sf.trans s'.sub), ?_⟩
        have s3 := s'.unbut.unwipe hw
        refine p1 F' H' gg (SRel.rest s1 sf s3 vs) _ ⟨A, _, rfl, hA', hf', s1.up A hA, (ra.own), fun i sl e m z => ?_⟩
        obtain ⟨e', hn⟩ := rest_mut vs e m
        obtain ⟨o, hm⟩ := Option.ne_none_iff_exists'.mp m
        obtain ⟨b, w, h1, h2, h3, h4, h5⟩ := s'.own i sl o e' hm
        have h1' : σ[i]? = some (some (V.ref b)) := (wipe_some h1).1
        rw [h1'] at z
        cases z
        exact h4.2 rfl
theorem jx_dc {fi : T → Rs (List D)} {g : D → T → Option T} {tt : T → Rs Bool} {ek ev : T → Rs D} (hc : X.calm = true) (hN : X.N.Nodup) (hi : JI px W X tg iter fi) (ok : BlkOk X.N X.env.scope scope own)
    (hg : ∀ (s : Shared) (H : Hp) (C : Addr) (cl : List (Str × Addr)) (fp : List Addr), JG (X.blk s H scope (compEnvC scope cl C X.env) fp) tg (own.map (·.2)) g)
    (ht : ∀ (s : Shared) (H : Hp) (C : Addr) (cl : List (Str × Addr)) (fp : List Addr), JTs px W0 (X.blk s H scope (compEnvC scope cl C X.env) fp) ifs tt)
    (hk : ∀ (s : Shared) (H : Hp) (C : Addr) (cl : List (Str × Addr)) (fp : List Addr), JE px W0 (X.blk s H scope (compEnvC scope cl C X.env) fp) kx ek)
    (he : ∀ (s : Shared) (H : Hp) (C : Addr) (cl : List (Str × Addr)) (fp : List Addr), JE px W0 (X.blk s H scope (compEnvC scope cl C X.env) fp) vx ev) (hs : ∀ x, foldedSetIterable iter X.env x = pure x) :
    JX px W X (.DictComp kx vx [⟨tg, iter, ifs, 0⟩] scope pos) (sDc fi g tt ek ev (own.map (·.2))) :=
  PE.imp (pe_dc (g := rdG X.K (List.map (fun x : Str × Nat => x.2) own) g) (tt := rdT X.K px W0 tt) (tk := rdE X.K px W0 ek) (tv := rdE X.K px W0 ev) hc hN hi ok hg ht hk he hs) fun _ _ _ h => rd_dc h
end
end U
end

section
set_option Elab.async false
set_option linter.all false
set_option maxRecDepth 100000
namespace U
open PySem PySem.Spec PyProof.Rows L2
/-! comprehensions of two clauses -/
def turnC2 (g : D → T → Option T) (tt : T → Rs Bool) (fi1 : T → Rs (List D)) (f1 : D → T → Rs (Option D)) (vs vs1 : List Nat) : D → T → List D → Rs (List D) := fun d τ acc => match g d τ with
  | none => .stuck
  | some τ1 => match tt τ1 with
    | .ok false τ2 => .ok acc (wipeT τ2 vs)
    | .ok true τ2 => (match fi1 τ2 with
      | .ok ds τ3 => (match compL f1 ds (wipeT τ3 vs1) acc with
        | .ok acc' τ4 => .ok acc' (wipeT τ4 vs)
        | _ => .stuck)
      | _ => .stuck)
    | _ => .stuck
def compL2 (f : D → T → List D → Rs (List D)) : List D → T → List D → Rs (List D)
  | [], τ, acc => .ok acc τ
  | d :: ds, τ, acc => match f d τ acc with
    | .ok acc' τ1 => compL2 f ds τ1 acc'
    | _ => .stuck
def sLc2 (fi : T → Rs (List D)) (g : D → T → Option T) (tt : T → Rs Bool) (fi1 : T → Rs (List D)) (g1 : D → T → Option T) (tt1 : T → Rs Bool) (el : T → Rs D) (vs vs1 : List Nat) : T → Rs PR := fun τ => (fi τ).bind fun ds τ1 => (compL2 (turnC2 g tt fi1 (turnC g1 tt1 el vs1) vs vs1) ds (wipeT τ1 vs) []).bind fun acc τ2 => .ok (.o (.l acc)) (restT τ1 vs τ2)
theorem turnC2_wiped {g : D → T → Option T} {tt : T → Rs Bool} {fi1 : T → Rs (List D)} {f1 : D → T → Rs (Option D)} {vs vs1 : List Nat} {d : D} {τ t : T} {acc out : List D} (q : turnC2 g tt fi1 f1 vs vs1 d τ acc = .ok out t) : ∀ (i : Nat) (sl : Sl), t[i]? = some sl → sl ≠ .no → i ∉ vs := by
  unfold turnC2 at q
  cases e1 : g d τ with
  | none => rw [e1] at q; cases q
  | some τ1 =>
    simp only [e1] at q
    cases e2 : tt τ1 with
    | stuck => rw [e2] at q; cases q
    | exc x t => rw [e2] at q; cases q
    | ok b τ2 =>
      rw [e2] at q
      cases b with
      | false => cases q; exact fun i sl a b => wipeT_get a b
      | true =>
        simp only at q
        cases e3 : fi1 τ2 with
        | stuck => rw [e3] at q; cases q
        | exc x t => rw [e3] at q; cases q
        | ok k τ3 =>
          simp only [e3] at q
          cases e4 : compL f1 k (wipeT τ3 vs1) acc with
          | stuck => rw [e4] at q; cases q
          | exc x t => rw [e4] at q; cases q
          | ok v τ4 => rw [e4] at q; cases q; exact fun i sl a b => wipeT_get a b
theorem compL2_wiped {f : D → T → List D → Rs (List D)} {vs : List Nat} (hf : ∀ d τ acc z t, f d τ acc = .ok z t → ∀ (i : Nat) (sl : Sl), t[i]? = some sl → sl ≠ .no → i ∉ vs) : ∀ (ds : List D) (τ : T) (acc out : List D) (τ' : T), (∀ (i : Nat) (sl : Sl), τ[i]? = some sl → sl ≠ .no → i ∉ vs) →
    compL2 f ds τ acc = .ok out τ' → ∀ (i : Nat) (sl : Sl), τ'[i]? = some sl → sl ≠ .no → i ∉ vs
  | [], τ, acc, out, τ', h, e => by
    cases e; exact h
  | d :: ds, τ, acc, out, τ', h, e => by
    unfold compL2 at e
    cases q : f d τ acc with
    | stuck => rw [q] at e; cases e
    | exc x t => rw [q] at e; cases e
    | ok z t => rw [q] at e; exact compL2_wiped hf ds t z out τ' (hf d τ acc z t q) e
theorem compL2_noexc {f : D → T → List D → Rs (List D)} : ∀ (ds : List D) (τ : T) (acc : List D) (x : Ex) (t : T), compL2 f ds τ acc ≠ .exc x t
  | [], τ, acc, x, t, e => by cases e
  | d :: ds, τ, acc, x, t, e => by
    unfold compL2 at e
    cases q : f d τ acc with
    | stuck => rw [q] at e; cases e
    | exc x t => rw [q] at e; cases e
    | ok z t' => rw [q] at e; exact compL2_noexc ds t' z x t e
theorem wipe_same {σ σ2 : St} {vs : List Nat} (hl : σ2.length = σ.length) (h : ∀ j, j ∉ vs → σ2[j]? = σ[j]?) : wipe σ2 vs = wipe σ vs := by
  apply List.ext_getElem?
  intro j
  by_cases hj : j ∈ vs
  · by_cases c : j < σ.length
    · have e1 : ∀ σ' : St, j < σ'.length → (wipe σ' vs)[j]? = some none := fun σ' hl' => by
        cases q : (wipe σ' vs)[j]? with
        | none => rw [List.getElem?_eq_none_iff, wipe_length] at q; omega
        | some v => cases v with
          | none => rfl
          | some v => exact absurd hj (wipe_some q).2
      rw [e1 σ c, e1 σ2 (by omega)]
    · rw [List.getElem?_eq_none (by rw [wipe_length]; omega), List.getElem?_eq_none (by rw [wipe_length]; omega)]
  · rw [wipe_out hj, wipe_out hj, h j hj]
section
variable {px : PX} {K : PySem.W.Frag}
/-- the loop of a clause that puts in -/
theorem in_loop {M : MS} {F1 H1 : Hp} {σ : St} {τ0 : T} {A : Addr} {accV0 : List V} {acc0 out : List D} {τo : T} {J : It} {ds : List D} {g : D → T → Option T} {tt : T → Rs Bool} {el : T → Rs D} {vs : List Nat} {Nx : Hp → Prop}
    (cf : Conf K F1 J ds) (s0 : SRel K (M.but A) F1 H1 (wipe σ vs) τ0) (hw0 : ∀ (i : Nat) (sl : Sl), τ0[i]? = some sl → sl ≠ .no → i ∉ vs) (mA : M.m A) (hA0 : H1 A = some (.lst accV0)) (hf0 : F1 A = none) (r0 : RepL K F1 accV0 acc0) (ec : compL (turnC g tt el vs) ds τ0 acc0 = .ok out τo)
    (hN : ∀ F' H' accV, Sub F1 F' → Grow M F1 H1 F' H' → SRel K (M.but A) F' H' (wipe σ vs) τo → (∀ (i : Nat) (sl : Sl), τo[i]? = some sl → sl ≠ .no → i ∉ vs) → H' A = some (.lst accV) → F' A = none → RepL K F' accV out → Nx H') :
    ∃ W1 : Nat → Nat → Hp → Prop, (∃ m, W1 0 m H1) ∧ ∀ j k H, W1 j k H → (J.stop j H ∧ Nx H) ∨ (J.go j H ∧ ∃ Nx1 : Hp → Prop, (∀ H', Nx1 H' → ∃ k', k' < k ∧ W1 (j + 1) k' H') ∧ ∀ x H', J.yld j H x H' → rdG K vs g x (wipe σ vs) H' fun σ3 H5 => wipe σ3 vs = wipe σ vs ∧ rdT K px W0 tt σ3 H5 fun b H6 =>
        if b = true then rdE K px W0 el σ3 H6 fun y H7 => ∃ acc, H7 A = some (.lst acc) ∧ acc.length < sizeLine ∧ Nx1 (upd H7 A (.lst (acc ++ [y]))) else Nx1 H6) := by
  refine ⟨fun i m H' => ∃ F' τ' acc accV, m = ds.length - i ∧ i ≤ ds.length ∧ Sub F1 F' ∧ Grow M F1 H1 F' H' ∧ SRel K (M.but A) F' H' (wipe σ vs) τ' ∧ H' A = some (.lst accV) ∧ F' A = none ∧ RepL K F' accV acc ∧ (∀ (i : Nat) (sl : Sl), τ'[i]? = some sl → sl ≠ .no → i ∉ vs) ∧
      compL (turnC g tt el vs) (ds.drop i) τ' acc = .ok out τo, ⟨ds.length, F1, τ0, acc0, accV0, by simp, Nat.zero_le _, Sub.refl _, .refl, s0, hA0, hf0, r0, hw0, ec⟩, ?_⟩
  rintro i m H' ⟨F', τ', acc, accV, rfl, hi, sf, gg, s', hA', hf', ra, hw, hc⟩
  by_cases hlt : i < ds.length
  · refine .inr ⟨cf.go i H' hlt (sf.trans s'.sub), fun H3 => ∃ F3 τ3 acc3 accV3, Sub F1 F3 ∧ Grow M F1 H1 F3 H3 ∧ SRel K (M.but A) F3 H3 (wipe σ vs) τ3 ∧ H3 A = some (.lst accV3) ∧ F3 A = none ∧ RepL K F3 accV3 acc3 ∧ (∀ (i : Nat) (sl : Sl), τ3[i]? = some sl → sl ≠ .no → i ∉ vs) ∧ compL (turnC g tt el vs) (ds.drop (i + 1)) τ3 acc3 = .ok out τo,
          fun H3 ⟨F3, τ3, c3, v3, a1, a2, a3, a4, a5, a6, a7, a8⟩ => ⟨ds.length - (i + 1), by omega, F3, τ3, c3, v3, rfl, hlt, a1, a2, a3, a4, a5, a6, a7, a8⟩, fun x H2 y => ?_⟩
    have hd : ds[i]? = some ds[i] := by simp [hlt]
    obtain ⟨F2, n2, r2⟩ := cf.yld i F' H' x H2 _ hd sf s'.sub y
    have s2 := n2.srel s'
    rw [List.drop_eq_getElem_cons hlt] at hc
    unfold compL at hc
    cases eg : g ds[i] τ' with
    | none => simp only [turnC, eg] at hc; cases hc
    | some τ2 =>
      simp only [turnC, eg] at hc
      refine ⟨M.but A, F2, τ', ds[i], τ2, s2, r2, eg, fun σ2 o2 s2' => ?_⟩
      have hl2 : σ2.length = σ.length := by rw [o2.1, wipe_length]
      have wp2 : wipe σ2 vs = wipe σ vs := wipe_same hl2 fun j hj => by rw [o2.2 j hj, wipe_out hj]
      refine ⟨wp2, M.but A, F2, τ2, s2', ?_⟩
      cases et : tt τ2 with
      | stuck => simp only [et] at hc; cases hc
      | exc x t => simp only [et] at hc; cases hc
      | ok k τ3 =>
        intro F3 H3 g3 s3
        have hnA : ¬ (M.but A).m A := fun z => z.2 rfl
        have G3 : Grow M F1 H1 F3 H3 := gg.trans ((n2.grow (M := M)).trans g3.unbut)
        have hA2 : H2 A = some (.lst accV) := n2.keep _ _ hA'
        have hA3 : H3 A = some (.lst accV) := g3.keep A _ hA2 hnA
        have hf2 : F2 A = none := n2.free A hf' (by rw [hA']; exact fun z => nomatch z)
        have hf3 : F3 A = none := g3.free A hf2 (by rw [hA2]; exact fun z => nomatch z) hnA
        have ra3 : RepL K F3 accV acc := ra.mono (n2.frz.trans g3.frz)
        have sf3 : Sub F1 F3 := sf.trans (n2.frz.trans g3.frz)
        cases k with
        | false =>
          simp only [et] at hc
          show (if false = true then _ else _)
          rw [if_neg Bool.false_ne_true]
          exact ⟨F3, wipeT τ3 vs, acc, accV, sf3, G3, by rw [← wp2]; exact s3.wiped vs, hA3, hf3, ra3, fun i sl a b => wipeT_get a b, hc⟩
        | true =>
          show (if true = true then _ else _)
          rw [if_pos rfl]
          cases ee : el τ3 with
          | stuck => simp only [et, ee] at hc; cases hc
          | exc x t => simp only [et, ee] at hc; cases hc
          | ok z τ4 =>
            simp only [et, ee] at hc
            by_cases cl : acc.length < lim
            · rw [if_pos cl] at hc
              refine ⟨M.but A, F3, τ3, s3, ?_⟩
              rw [ee]
              intro F4 H4 g4 s4 v rv
              have hA4 : H4 A = some (.lst accV) := g4.keep A _ hA3 hnA
              have hf4 : F4 A = none := g4.free A hf3 (by rw [hA3]; exact fun z => nomatch z) hnA
              have ra4 := ra3.mono g4.frz
              refine ⟨accV, hA4, by rw [ra.length]; exact lim_lt cl, F4, wipeT τ4 vs, acc ++ [z], accV ++ [v], sf3.trans g4.frz, ?_, ?_, upd_same, hf4, ra4.append (.cons rv .nil), fun i sl a b => wipeT_get a b, hc⟩
              · exact (G3.trans g4.unbut).trans (but_step hA4 mA)
              · rw [← wp2]; exact (s4.wiped vs).butStep hA4 hf4
            · rw [if_neg cl] at hc; cases hc
  · have e : i = ds.length := by omega
    subst e
    rw [List.drop_length] at hc
    cases hc
    exact .inl ⟨cf.stop H' (sf.trans s'.sub), hN F' H' accV sf gg s' hw hA' hf' ra⟩
end
section
variable {px : PX} {W : WX} {X : Cx} {pos : Pos} {tg iter tg1 iter1 elt : Expr} {ifs ifs1 : List Expr} {scope : Scope} {own : List (Str × Nat)}
theorem rd_lc2 {fi fi1 : T → Rs (List D)} {g g1 : D → T → Option T} {tt tt1 : T → Rs Bool} {el : T → Rs D} {σ : St} {H : Hp} {Q : VK} {K : PySem.W.Frag} {vs vs1 : List Nat} (h : rdX K px W (sLc2 fi g tt fi1 g1 tt1 el vs vs1) σ H Q) :
    tLc2 (rdI K px W fi) (rdG K vs g) (rdT K px W0 tt) (rdI K px W0 fi1) (rdG K vs1 g1) (rdT K px W0 tt1) (rdE K px W0 el) vs vs1 σ H Q := by
  obtain ⟨M, F, τ, s, p⟩ := h
  refine ⟨M, F, τ, s, p.bind.imp fun ds τ1 F1 H1 g1' s1 p1 J cf => fun A hA => ?_⟩
  cases ec : compL2 (turnC2 g tt fi1 (turnC g1 tt1 el vs1) vs vs1) ds (wipeT τ1 vs) [] with
  | stuck => rw [ec] at p1; exact p1.elim
  | exc x t => exact absurd ec (compL2_noexc _ _ _ _ _)
  | ok out τo =>
    rw [ec] at p1
    have p1 : Post K px W M F1 H1 σ (.ok (.o (.l out)) (restT τ1 vs τo)) (RX K M σ Q) := p1
    have hwo := compL2_wiped (fun _ _ _ _ _ q => turnC2_wiped q) ds _ _ out τo (fun i sl a b => wipeT_get a b) ec
    have hf1 : F1 A = none := s1.new (o := .lst []) hA
    have fo := s1.fresh_own (u := .lst []) (o := .l []) hA (.l .nil)
    refine ⟨fun i m H' => ∃ F' τ' acc accV, m = ds.length - i ∧ i ≤ ds.length ∧ Sub F1 F' ∧ Grow M F1 H1 F' H' ∧ SRel K (M.but A) F' H' (wipe σ vs) τ' ∧ H' A = some (.lst accV) ∧ F' A = none ∧ RepL K F' accV acc ∧ (∀ (i : Nat) (sl : Sl), τ'[i]? = some sl → sl ≠ .no → i ∉ vs) ∧
      compL2 (turnC2 g tt fi1 (turnC g1 tt1 el vs1) vs vs1) (ds.drop i) τ' acc = .ok out τo, ⟨ds.length, F1, wipeT τ1 vs, [], [], by simp, Nat.zero_le _, Sub.refl _, grow_alloc hA, ?_, upd_same, hf1, .nil, fun i sl a b => wipeT_get a b, ec⟩, ?_⟩
    · refine SRel.but (u := .lst []) ((s1.alloc hA).wiped vs) upd_same fun i sl e m z => ?_
      have hz : σ[i]? = some (some (V.ref A)) := (wipe_some z).1
      obtain ⟨o, hm⟩ := Option.ne_none_iff_exists'.mp m
      obtain ⟨b, w, h1, h2, h3, h4, h5⟩ := (s1.wiped vs).own i sl o e hm
      rw [h1] at z
      cases z
      rw [hA] at h2
      cases h2
    · rintro i m H' ⟨F', τ', acc, accV, rfl, hi, sf, gg, s', hA', hf', ra, hw, hc⟩
      by_cases hlt : i < ds.length
      · refine .inr ⟨cf.go i H' hlt (sf.trans s'.sub), fun H3 => ∃ F3 τ3 acc3 accV3, Sub F1 F3 ∧ Grow M F1 H1 F3 H3 ∧ SRel K (M.but A) F3 H3 (wipe σ vs) τ3 ∧ H3 A = some (.lst accV3) ∧ F3 A = none ∧ RepL K F3 accV3 acc3 ∧ (∀ (i : Nat) (sl : Sl), τ3[i]? = some sl → sl ≠ .no → i ∉ vs) ∧ compL2 (turnC2 g tt fi1 (turnC g1 tt1 el vs1) vs vs1) (ds.drop (i + 1)) τ3 acc3 = .ok out τo,
          fun H3 ⟨F3, τ3, c3, v3, a1, a2, a3, a4, a5, a6, a7, a8⟩ => ⟨ds.length - (i + 1), by omega, F3, τ3, c3, v3, rfl, hlt, a1, a2, a3, a4, a5, a6, a7, a8⟩, fun x H2 y => ?_⟩
        have hd : ds[i]? = some ds[i] := by simp [hlt]
        obtain ⟨F2, n2, r2⟩ := cf.yld i F' H' x H2 _ hd sf s'.sub y
        have s2 := n2.srel s'
        rw [List.drop_eq_getElem_cons hlt] at hc
        unfold compL2 at hc
        cases eg : g ds[i] τ' with
        | none => simp only [turnC2, eg] at hc; cases hc
        | some τ2 =>
          simp only [turnC2, eg] at hc
          refine ⟨M.but A, F2, τ', ds[i], τ2, s2, r2, eg, fun σ2 o2 s2' => ?_⟩
          have hl2 : σ2.length = σ.length := by rw [o2.1, wipe_length]
          have wp2 : wipe σ2 vs = wipe σ vs := wipe_same hl2 fun j hj => by rw [o2.2 j hj, wipe_out hj]
          refine ⟨wp2, M.but A, F2, τ2, s2', ?_⟩
          cases et : tt τ2 with
          | stuck => simp only [et] at hc; cases hc
          | exc x t => simp only [et] at hc; cases hc
          | ok k τ3 =>
            intro F3 H3 g3 s3
            have hnA : ¬ (M.but A).m A := fun z => z.2 rfl
            have G3 : Grow M F1 H1 F3 H3 := gg.trans ((n2.grow (M := M)).trans g3.unbut)
            have hA2 : H2 A = some (.lst accV) := n2.keep _ _ hA'
            have hA3 : H3 A = some (.lst accV) := g3.keep A _ hA2 hnA
            have hf2 : F2 A = none := n2.free A hf' (by rw [hA']; exact fun z => nomatch z)
            have hf3 : F3 A = none := g3.free A hf2 (by rw [hA2]; exact fun z => nomatch z) hnA
            have ra3 : RepL K F3 accV acc := ra.mono (n2.frz.trans g3.frz)
            have sf3 : Sub F1 F3 := sf.trans (n2.frz.trans g3.frz)
            cases k with
            | false =>
              simp only [et] at hc
              show (if false = true then _ else _)
              rw [if_neg Bool.false_ne_true]
              exact ⟨F3, wipeT τ3 vs, acc, accV, sf3, G3, by rw [← wp2]; exact s3.wiped vs, hA3, hf3, ra3, fun i sl a b => wipeT_get a b, hc⟩
            | true =>
              show (if true = true then _ else _)
              rw [if_pos rfl]
              cases e1 : fi1 τ3 with
              | stuck => simp only [et, e1] at hc; cases hc
              | exc x t => simp only [et, e1] at hc; cases hc
              | ok ds1 τ4 =>
                simp only [et, e1] at hc
                cases e2 : compL (turnC g1 tt1 el vs1) ds1 (wipeT τ4 vs1) acc with
                | stuck => simp only [e2] at hc; cases hc
                | exc x t => simp only [e2] at hc; cases hc
                | ok acc' τ5 =>
                  simp only [e2] at hc
                  refine ⟨M.but A, F3, τ3, s3, ?_⟩
                  rw [e1]
                  intro F4 H4 g4 s4 J1 cf1
                  have hA4 : H4 A = some (.lst accV) := g4.keep A _ hA3 hnA
                  have hf4 : F4 A = none := g4.free A hf3 (by rw [hA3]; exact fun z => nomatch z) hnA
                  have G4 : Grow M F1 H1 F4 H4 := G3.trans g4.unbut
                  exact in_loop cf1 (s4.wiped vs1) (fun i sl a b => wipeT_get a b) (s1.up A hA) hA4 hf4 (ra3.mono g4.frz) e2 fun F5 H5 accV5 sf5 g5 s5 hw5 hA5 hf5 r5 =>
                    ⟨F5, wipeT τ5 vs, acc', accV5, sf3.trans (g4.frz.trans sf5), G4.trans g5, by rw [← wp2]; exact (s5.unwipe hw5).wiped vs, hA5, hf5, r5, fun i sl a b => wipeT_get a b, hc⟩
      · have e : i = ds.length := by omega
        subst e
        rw [List.drop_length] at hc
        cases hc
        refine .inl ⟨cf.stop H' (sf.trans s'.sub), ?_⟩
        have s3 := s'.unbut.unwipe hw
        refine p1 F' H' gg (SRel.rest s1 sf s3 vs) _ ⟨A, _, rfl, hA', hf', s1.up A hA, .l ra, fun i sl e m z => ?_⟩
        obtain ⟨e', hn⟩ := rest_mut vs e m
        obtain ⟨o, hm⟩ := Option.ne_none_iff_exists'.mp m
        obtain ⟨b, w, h1, h2, h3, h4, h5⟩ := s'.own i sl o e' hm
        have h1' : σ[i]? = some (some (V.ref b)) := (wipe_some h1).1
        rw [h1'] at z
        cases z
        exact h4.2 rfl
theorem jx_lc2 {fi fi1 : T → Rs (List D)} {g g1 : D → T → Option T} {tt tt1 : T → Rs Bool} {el : T → Rs D} {vs1 : List Nat} (hc : X.calm = true) (hN : X.N.Nodup) (hi : JI px W X tg iter fi) (ok : BlkOk X.N X.env.scope scope own) (hv : ∀ i ∈ vs1, i ∈ own.map (·.2))
    (hg : ∀ (s : Shared) (H : Hp) (C : Addr) (cl : List (Str × Addr)) (fp : List Addr), JG (X.blk s H scope (compEnvC scope cl C X.env) fp) tg (own.map (·.2)) g)
    (ht : ∀ (s : Shared) (H : Hp) (C : Addr) (cl : List (Str × Addr)) (fp : List Addr), JTs px W0 (X.blk s H scope (compEnvC scope cl C X.env) fp) ifs tt)
    (hi1 : ∀ (s : Shared) (H : Hp) (C : Addr) (cl : List (Str × Addr)) (fp : List Addr), JI px W0 (X.blk s H scope (compEnvC scope cl C X.env) fp) tg1 iter1 fi1)
    (hg1 : ∀ (s : Shared) (H : Hp) (C : Addr) (cl : List (Str × Addr)) (fp : List Addr), JG (X.blk s H scope (compEnvC scope cl C X.env) fp) tg1 vs1 g1)
    (ht1 : ∀ (s : Shared) (H : Hp) (C : Addr) (cl : List (Str × Addr)) (fp : List Addr), JTs px W0 (X.blk s H scope (compEnvC scope cl C X.env) fp) ifs1 tt1)
    (he : ∀ (s : Shared) (H : Hp) (C : Addr) (cl : List (Str × Addr)) (fp : List Addr), JE px W0 (X.blk s H scope (compEnvC scope cl C X.env) fp) elt el) (hs : ∀ x, foldedSetIterable iter X.env x = pure x) (hs1 : ∀ env x, foldedSetIterable iter1 env x = pure x) :
    JX px W X (.ListComp elt [⟨tg, iter, ifs, 0⟩, ⟨tg1, iter1, ifs1, 0⟩] scope pos) (sLc2 fi g tt fi1 g1 tt1 el (own.map (·.2)) vs1) :=
  PE.imp (pe_lc2 (g := rdG X.K (List.map (fun x : Str × Nat => x.2) own) g) (tt := rdT X.K px W0 tt) (wi1 := rdI X.K px W0 fi1) (g1 := rdG X.K vs1 g1) (tt1 := rdT X.K px W0 tt1) (te := rdE X.K px W0 el) hc hN hi ok hv hg ht hi1 hg1 ht1 he hs hs1) fun _ _ _ h => rd_lc2 h
end
end U
end

section
set_option Elab.async false
set_option linter.all false
set_option maxRecDepth 100000
namespace U
open PySem PySem.Spec PyProof.Rows L2
/-! dict comprehensions, comprehensions of two clauses by name -/
def sDcB (it : T → Rs (List D)) (tc : D → T → Rs (Option (D × D))) (vs : List Nat) : T → Rs PR := fun τ => (it τ).bind fun ds τ1 => (compK tc ds (wipeT τ1 vs) []).bind fun acc τ2 => .ok (.o (.d false (acc.map (·.1)) (acc.map (·.2)))) (restT τ1 vs τ2)
def sLc2B (it : T → Rs (List D)) (tc : D → T → List D → Rs (List D)) (vs : List Nat) : T → Rs PR := fun τ => (it τ).bind fun ds τ1 => (compL2 tc ds (wipeT τ1 vs) []).bind fun acc τ2 => .ok (.o (.l acc)) (restT τ1 vs τ2)
theorem evl7 : (∀ it tc vs τ, sDcB it tc vs τ = (it τ).bind fun ds τ1 => (compK tc ds (wipeT τ1 vs) []).bind fun acc τ2 => .ok (.o (.d false (acc.map (·.1)) (acc.map (·.2)))) (restT τ1 vs τ2)) ∧
    (∀ it tc vs τ, sLc2B it tc vs τ = (it τ).bind fun ds τ1 => (compL2 tc ds (wipeT τ1 vs) []).bind fun acc τ2 => .ok (.o (.l acc)) (restT τ1 vs τ2)) ∧
    (∀ g tt ek ev vs d τ, turnK g tt ek ev vs d τ = match g d τ with
      | none => .stuck
      | some τ1 => match tt τ1 with
        | .ok false τ2 => .ok none (wipeT τ2 vs)
        | .ok true τ2 => (match ek τ2 with
          | .ok k τ3 => (match ev τ3 with
            | .ok z τ4 => .ok (some (k, z)) (wipeT τ4 vs)
            | _ => .stuck)
          | _ => .stuck)
        | _ => .stuck) ∧
    (∀ g tt fi f1 vs vs1 d τ acc, turnC2 g tt fi f1 vs vs1 d τ acc = match g d τ with
      | none => .stuck
      | some τ1 => match tt τ1 with
        | .ok false τ2 => .ok acc (wipeT τ2 vs)
        | .ok true τ2 => (match fi τ2 with
          | .ok ds τ3 => (match compL f1 ds (wipeT τ3 vs1) acc with
            | .ok acc' τ4 => .ok acc' (wipeT τ4 vs)
            | _ => .stuck)
          | _ => .stuck)
        | _ => .stuck) := ⟨fun _ _ _ _ => rfl, fun _ _ _ _ => rfl, fun _ _ _ _ _ _ _ => rfl, fun _ _ _ _ _ _ _ _ _ => rfl⟩
end U
end

section
set_option Elab.async false
set_option linter.all false
set_option maxRecDepth 100000
namespace U
open PySem PySem.Spec PyProof.Rows L2
/-! tuples known to be plain, dict(..) of them -/
section
variable {K : PySem.W.Frag} {F H : Hp} {Q : VK}
theorem PW.ptp {ds : List D} {vs : List V} (s : Sub F H) (p : PW K F H (.d (.ptp ds)) Q) (r : RepL K F vs ds) : ∀ l o, H l = none → o.dict = none → Q (.ref l) (upd H l (.frz o (.tup vs))) :=
  fun l o hl hd => p (.ref l) _ _ (.lay s hl) (.ptp upd_same hd (r.mono (Sub.upd (none_of_sub s hl))))
end
def gTupleP : D → Option PR
  | .lst ds => some (.d (.ptp ds))
  | _ => none
def sTupP (g : T → Rs (List D)) : T → Rs PR := fun τ => (g τ).bind fun ds τ1 => if ds.length ≤ lim then .ok (.d (.ptp ds)) τ1 else .stuck
/-- the pairs that dict() takes -/
def pairsD : List D → Option (List (D × D))
  | [] => some []
  | .tup [k, v] :: ds => if k.key.isSome then (pairsD ds).map ((k, v) :: ·) else none
  | _ => none
def mergeP (ps : List (D × D)) : List (D × D) := ps.foldl (fun acc p => putP acc p.1 p.2) []
def gDict : D → Option PR
  | .ptp ds => if ds.length ≤ lim then (pairsD ds).map fun ps => .o (.d false ((mergeP ps).map (·.1)) ((mergeP ps).map (·.2))) else none
  | _ => none
theorem pairsD_ind {ds : List D} {ps : List (D × D)} (h : pairsD ds = some ps) : (ds = [] ∧ ps = []) ∨ ∃ k v ds' ps' kk, ds = .tup [k, v] :: ds' ∧ ps = (k, v) :: ps' ∧ k.key = some kk ∧ pairsD ds' = some ps' := by
  match ds, h with
  | [], h => cases h; exact .inl ⟨rfl, rfl⟩
  | .tup [k, v] :: ds, h =>
    unfold pairsD at h
    cases e : k.key with
    | none => rw [e] at h; cases h
    | some kk =>
      rw [e] at h
      have h : (pairsD ds).map ((k, v) :: ·) = some ps := h
      obtain ⟨ps', e1, rfl⟩ := map_some h
      exact .inr ⟨k, v, ds, ps', kk, rfl, rfl, e, e1⟩
section
variable {K : PySem.W.Frag} {F H : Hp}
theorem RepK.merge : ∀ {more : List (Key × V)} {qs : List (D × D)} {kvs : List (Key × V)} {ps : List (D × D)}, RepK K F more qs → RepK K F kvs ps → RepK K F (mergeK kvs more) (qs.foldl (fun acc p => putP acc p.1 p.2) ps)
  | _, _, _, _, .nil, h => h
  | _, _, _, _, .cons hk rv q, h => by
    have z := RepK.merge q (h.put hk rv)
    exact z
/-- the pairs, at the heap -/
theorem pairs_rep (s : Sub F H) : ∀ {ds : List D} {ps : List (D × D)} {vs : List V}, pairsD ds = some ps → RepL K F vs ds → ∃ (as : List Addr) (kvs : List (Key × V)), vs = as.map V.ref ∧ RepK K F kvs ps ∧ Paired (fun p kv => SqT K H p [kV kv.1, kv.2]) as kvs
  | ds, ps, vs, h, r => by
    rcases pairsD_ind h with ⟨rfl, rfl⟩ | ⟨k, v, ds', ps', kk, rfl, rfl, ek, e⟩
    · cases r; exact ⟨[], [], rfl, .nil, .nil⟩
    · cases r with
      | cons h1 r1 =>
        obtain ⟨as, kvs, e1, e2, e3⟩ := pairs_rep s e r1
        cases h1 with
        | tup q r2 =>
          cases r2 with
          | cons rk r3 =>
            cases r3 with
            | cons rv r4 =>
              cases r4
              have ev := key_rep ek rk
              subst ev
              subst e1
              exact ⟨_ :: as, (kk, _) :: kvs, rfl, .cons ek rv e2, .cons (.of (s _ _ q)) e3⟩
  termination_by ds => ds.length
  decreasing_by all_goals (subst_vars; simp)
end
theorem choose_list {α β : Type} : ∀ (l : List α) (P : Nat → α → β → Prop), (∀ j a, l[j]? = some a → ∃ b, P j a b) → ∃ bs : List β, bs.length = l.length ∧ ∀ j a, l[j]? = some a → ∃ b, bs[j]? = some b ∧ P j a b
  | [], P, h => ⟨[], rfl, fun j a e => by simp at e⟩
  | a :: l, P, h => by
    obtain ⟨b, hb⟩ := h 0 a rfl
    obtain ⟨bs, hl, hbs⟩ := choose_list l (fun j => P (j + 1)) fun j a e => h (j + 1) a (by simpa using e)
    refine ⟨b :: bs, by rw [List.length_cons, List.length_cons, hl], fun j a' e => ?_⟩
    cases j with
    | zero => cases e; exact ⟨b, rfl, hb⟩
    | succ j => obtain ⟨b', e1, e2⟩ := hbs j a' (by simpa using e); exact ⟨b', by simpa using e1, e2⟩
section
variable {X : Cx}
theorem objOk_frz {pins : List (Addr × Obj)} {σ : St} {H : Hp} {s : Shared} {vs : List V} {its : List Value} (r : Vals vs its) (hz : vs.length ≤ sizeLine) (h' : Heap) :
    ObjOk X.prog X.w (upd H h'.objs.size (.frz { cls := .type "tuple", data := .seq its.toArray } (.tup vs))) (h'.push { cls := .type "tuple", data := .seq its.toArray }) h'.objs.size (.frz { cls := .type "tuple", data := .seq its.toArray } (.tup vs)) :=
  ⟨Heap.get?_push_size _ rfl, hz, its, r, IsTup.new _ _⟩
theorem cr_tupleP : CallR X (.type "tuple") (rC X.K (g1 gTupleP)) := by
  intro pins s σ H xs us Q I rs ⟨F, ds, r, sb, n, hg, pw⟩
  obtain ⟨d, rfl, hg⟩ := g1_some hg
  obtain ⟨x, rfl, n1⟩ := n.one
  cases d with
  | lst ds =>
    cases hg
    obtain ⟨a, vs, rfl, ha, r1⟩ := n1.lst sb
    obtain ⟨u, rfl, rx⟩ := vals1 rs
    cases rx
    obtain ⟨its, r', pl, hz⟩ := I.list (xs := vs) (.of ha)
    have hlen := r'.length
    refine call_tuple_list pl.isList (fun h' kp => ?_) (by simp only [List.size_toArray] <;> omega)
    have I1 : Inv X pins σ H { s with heap := h' } := I.kept (t' := s.toks) kp
    have I2 := I1.laid (t' := s.toks) (h' := h'.push { cls := .type "tuple", data := .seq its.toArray }) (fun b o e => Heap.get?_push_of_some _ e) (Nat.le_refl _) (objOk_frz (X := X) (pins := pins) (σ := σ) (s := s) r' hz h')
    exact ⟨.ref h'.objs.size, _, I2, rfl, pw.ptp sb r1 _ _ (I1.hok.fresh (Nat.le_refl _)) rfl⟩
  | _ => cases hg
theorem cr_dictP (hcalm : X.calm = true) : CallR X (.type "dict") (rC X.K (g1 gDict)) := by
  intro pins s σ H xs us Q I rs ⟨F, ds, r, sb, n, hg, pw⟩
  obtain ⟨d, rfl, hg⟩ := g1_some hg
  obtain ⟨x, rfl, n1⟩ := n.one
  cases d with
  | ptp ds =>
    have hg : (if ds.length ≤ lim then (pairsD ds).map fun ps => PR.o (.d false ((mergeP ps).map (·.1)) ((mergeP ps).map (·.2))) else none) = some r := hg
    obtain ⟨c, hg⟩ : ds.length ≤ lim ∧ (pairsD ds).map (fun ps => PR.o (.d false ((mergeP ps).map (·.1)) ((mergeP ps).map (·.2)))) = some r := by
      by_cases c : ds.length ≤ lim
      · rw [if_pos c] at hg; exact ⟨c, hg⟩
      · rw [if_neg c] at hg; cases hg
    obtain ⟨ps, ep, rfl⟩ := map_some hg
    obtain ⟨a, o, vs, rfl, ha, hd, r1, _⟩ := n1.ptp sb
    obtain ⟨u, rfl, rx⟩ := vals1 rs
    cases rx
    obtain ⟨as, kvs, rfl, rk, hp⟩ := pairs_rep (H := H) sb ep r1
    obtain ⟨hgo, hz, its, rv, oo, hoo, hc, m, hdat⟩ := (show ObjOk X.prog X.w H s.heap a (.frz o (.tup (as.map V.ref))) from I.hok a _ ha)
    have eo : oo = o := Option.some.inj (hoo.symm.trans hgo)
    subst eo
    have ei := refs_at rv
    subst ei
    obtain ⟨prs, rel, hl, hpr⟩ := pairs_of I hp
    rw [List.length_map] at hz
    obtain ⟨bs, hbl, hbs⟩ := choose_list (β := Addr × Value) prs (fun j q b => as[j]? = some b.1 ∧ IsTup s.heap b.1 #[b.2, q.2] ∧ keyIs q.1 b.2 = true) fun j q e => by
      obtain ⟨b, u, h1, h2, h3⟩ := hpr j q e
      exact ⟨(b, u), h1, h2, h3⟩
    have hpl : ((bs.zip prs).map fun z => (z.1.2, z.2.2)).length = prs.length := by simp [hbl]
    have hat : ∀ (j : Nat) (k v : Value), ((bs.zip prs).map fun z => (z.1.2, z.2.2))[j]? = some (k, v) → ∃ b kk, bs[j]? = some (b, k) ∧ prs[j]? = some (kk, v) ∧ as[j]? = some b ∧ IsTup s.heap b #[k, v] ∧ keyIs kk k = true := fun j k v e => by
      rw [List.getElem?_map] at e
      obtain ⟨z, e1, e2⟩ := map_some e
      obtain ⟨⟨b, k'⟩, kk, v'⟩ := z
      cases e2
      obtain ⟨e3, e4⟩ := List.getElem?_zip_eq_some.mp e1
      obtain ⟨b', e5, h1, h2, h3⟩ := hbs j _ e4
      have e6 := Option.some.inj (e5.symm.trans e3)
      subst e6
      exact ⟨b, kk, e3, e4, h1, h2, h3⟩
    refine PySem.call_dict_pairs (knd := mixKind X.prog X.w) (kvs := prs) (PairArg.tuple a (as.map Value.ref).toArray (fun j => as.getD j 0) ((bs.zip prs).map fun z => (z.1.2, z.2.2))) (I.ok.hd hcalm) ⟨⟨oo, m, hgo, hc, hd, hdat⟩, ⟨by simp [hbl, hl], fun j k v e => ?_⟩⟩ ⟨hpl.symm, fun i key v e => ?_⟩ (by rw [hpl, hl]; exact hz) fun h' tk hd' kp => ?_
    · obtain ⟨b, kk, _, _, h1, h2, _⟩ := hat j k v e
      have e7 : as.getD j 0 = b := by simp [h1]
      show (List.map Value.ref as).toArray[j]? = some (Value.ref (as.getD j 0)) ∧ PairAt s.heap (as.getD j 0) k v
      rw [e7]
      exact ⟨by simp [h1], .inl h2⟩
    · obtain ⟨b, kk, _, h0, h1, h2, h3⟩ := hat i key v e
      exact ⟨kk, h0, h3⟩
    · have hm : (s.heap.objs.size == sysModules) = false := beq_eq_false_iff_ne.mpr (Nat.ne_of_gt I.big)
      have hlen : (mergeK [] kvs).length ≤ sizeLine := by
        refine Nat.le_trans (length_mergeK kvs []) ?_
        rw [List.length_nil, Nat.zero_add, rel.length, hl]
        exact hz
      exact ⟨.ref s.heap.objs.size, upd H s.heap.objs.size (.dK (mergeK [] kvs)), I.laid (t' := tk) (fun b o e => kp b o (by simp) e) (Nat.le_refl _) (show ObjOk X.prog X.w _ _ _ (.dK (mergeK [] kvs)) from ⟨hlen, hm, merged [] prs, KV.merge rel .nil, hd'⟩), rfl, pw s.heap.objs.size (.dK (mergeK [] kvs)) F H (.refl sb) (I.hok.fresh (Nat.le_refl _)) ((RepK.merge rk .nil).own)⟩
  | _ => cases hg
variable {px : PX} {W : WX} {es : List Expr} {pos : Pos}
/-- the display of a tuple, its object told -/
theorem pe_tupP {n : Nat} {t : TA} (h : PA X es t) : PE X (.Tuple es n pos) (fun σ H Q => t σ H fun vs H1 => vs.length ≤ sizeLine ∧ ∀ p o, H1 p = none → o.dict = none → Q (.ref p) (upd H1 p (.frz o (.tup vs)))) := by
  refine ⟨fun pins s σ H Q I hq => ?_⟩
  refine wpAny_Tuple_spliced (thn (h.run pos pins s σ H _ I hq) fun us s1 ⟨xs, H1, I1, r, z, q⟩ => ⟨by rw [← r.length]; exact z, ?_⟩)
  have hf : H1 s1.heap.objs.size = none := I1.hok.fresh (Nat.le_refl _)
  have I2 := I1.laid (t' := s1.toks) (h' := s1.heap.push { cls := .type "tuple", data := .seq us.toArray }) (fun b u e => Heap.get?_push_of_some _ e) (Nat.le_refl _) (objOk_frz (X := X) (pins := pins) (σ := σ) (s := s1) r z s1.heap)
  exact ⟨.ref s1.heap.objs.size, _, I2, rfl, q _ _ hf rfl⟩
theorem jx_tupP {n : Nat} {g : T → Rs (List D)} (h : JA px W X es g) : JX px W X (.Tuple es n pos) (sTupP g) :=
  PE.imp (pe_tupP h) fun σ H Q ⟨M, F, τ, s, p⟩ => rdA_bind s p fun ds τ1 F1 H1 vs g1 s1 rvs p1 => by
    by_cases c : ds.length ≤ lim
    · rw [if_pos c] at p1
      exact ⟨by rw [rvs.length]; exact lim_ok c, (p1.pw s1).ptp s1.sub rvs⟩
    · rw [if_neg c] at p1; exact p1.elim
end
end U
end

section
set_option Elab.async false
set_option linter.all false
set_option maxRecDepth 100000
namespace U
open PySem PySem.Spec PyProof.Rows L2
section
variable {px : PX} {W : WX} {X : Cx} {pos : Pos} {tg iter tg1 iter1 elt : Expr} {ifs ifs1 : List Expr} {scope : Scope} {own : List (Str × Nat)}
/-- name = [.. for .. for ..] on one line -/
theorem js_setLc2 {i : Nat} {y : Str} {py spos : Pos} {fi fi1 : T → Rs (List D)} {g g1 : D → T → Option T} {tt tt1 : T → Rs Bool} {el : T → Rs D} {vs1 : List Nat} (hc : X.calm = true) (hN : X.N.Nodup) (hy : X.N[i]? = some y) (hyl : X.env.scope.names.lookup y = some .local)
    (hsw : swapsWith (.ListComp elt [⟨tg, iter, ifs, 0⟩, ⟨tg1, iter1, ifs1, 0⟩] scope pos) (some (.Name y py)) spos.line X.env = pure true) (hi : JI px W X tg iter fi) (ok : BlkOk X.N X.env.scope scope own) (hv : ∀ i ∈ vs1, i ∈ own.map (·.2))
    (hg : ∀ (s : Shared) (H : Hp) (C : Addr) (cl : List (Str × Addr)) (fp : List Addr), JG (X.blk s H scope (compEnvC scope cl C X.env) fp) tg (own.map (·.2)) g)
    (ht : ∀ (s : Shared) (H : Hp) (C : Addr) (cl : List (Str × Addr)) (fp : List Addr), JTs px W0 (X.blk s H scope (compEnvC scope cl C X.env) fp) ifs tt)
    (hi1 : ∀ (s : Shared) (H : Hp) (C : Addr) (cl : List (Str × Addr)) (fp : List Addr), JI px W0 (X.blk s H scope (compEnvC scope cl C X.env) fp) tg1 iter1 fi1)
    (hg1 : ∀ (s : Shared) (H : Hp) (C : Addr) (cl : List (Str × Addr)) (fp : List Addr), JG (X.blk s H scope (compEnvC scope cl C X.env) fp) tg1 vs1 g1)
    (ht1 : ∀ (s : Shared) (H : Hp) (C : Addr) (cl : List (Str × Addr)) (fp : List Addr), JTs px W0 (X.blk s H scope (compEnvC scope cl C X.env) fp) ifs1 tt1)
    (he : ∀ (s : Shared) (H : Hp) (C : Addr) (cl : List (Str × Addr)) (fp : List Addr), JE px W0 (X.blk s H scope (compEnvC scope cl C X.env) fp) elt el) (hs : ∀ x, foldedSetIterable iter X.env x = pure x) (hs1 : ∀ env x, foldedSetIterable iter1 env x = pure x) :
    JS px W X (.Assign [.Name y py] (.ListComp elt [⟨tg, iter, ifs, 0⟩, ⟨tg1, iter1, ifs1, 0⟩] scope pos) spos) (sSet i (sLc2 fi g tt fi1 g1 tt1 el (own.map (·.2)) vs1)) :=
  js_asg (ps_setLc2 (g := rdG X.K (List.map (fun x : Str × Nat => x.2) own) g) (tt := rdT X.K px W0 tt) (wi1 := rdI X.K px W0 fi1) (g1 := rdG X.K vs1 g1) (tt1 := rdT X.K px W0 tt1) (te := rdE X.K px W0 el) hc hN hy hyl hsw hi ok hv hg ht hi1 hg1 ht1 he hs hs1) fun _ _ _ h => rd_lc2 h
end
end U
end

section
set_option Elab.async false
set_option linter.all false
set_option maxRecDepth 100000
set_option maxHeartbeats 0
namespace U
open PySem PySem.Spec PyProof.Rows L2
section
variable {P : Program} {w : World} {K : PySem.W.Frag} {mg : Str → Option Value} {base : Heap} {px : PX}
def top (i : Nat) : Stmt := PySem.Challenge.pw_upbyany_k75_lowest_and_highest_books.main.body.getD i (.Pass ⟨0, 0, 0, 0⟩)
/-! set_of -/
def N_set_of : List Str := ["some"]
theorem sc_set_of : FnScope N_set_of ["some"] (defScope (top 3)) := ⟨rfl, rfl, rfl, by decide +kernel, rfl, by decide +kernel, by decide +kernel⟩
def f_set_of : T → SR :=
  sRet (sCB (g1 gTuple) (sBCons (toB (frz (sCB (g1 gSS) (sBCons (sRd 0) (sBNil))))) (sBNil)))
def den_set_of : List Sl → DR := run 0 f_set_of
theorem ok_set_of (B : Blt mg) (D_set_of : DefOk K mg "set_of" (top 3) ["some"])  : Callee P w K mg base px "set_of" (defArgs (top 3)) ["some"] 1 den_set_of := by
  have scN := sc_set_of
  refine callee (k := 0) (m := 0) (g := f_set_of) D_set_of sc_set_of rfl fun f cdv A outer s H E hr tk po => ?_
  have hu64 := hr.units
  have hu65 : (A.deeper (envOfC "set_of" (defScope (top 3)) s.heap.objs.size f cdv)).units + 65 < cLine := by have := hr.un; omega
  have hu1 : (A.deeper (envOfC "set_of" (defScope (top 3)) s.heap.objs.size f cdv)).units + 1 < cLine := by have := hr.un; omega
  exact jss_one (js_ret (jx_callTy (cr_tupleU rfl) rfl B.tuple boot_tuple (jab_cons (JE.b (JX.frz (jx_ss rfl hu64 rfl B.sorted rfl B.set (jab_cons (jb_rd (pv 0)) (jab_nil) rfl) rfl))) (jab_nil) rfl) (by decide) (by decide) rfl rfl))
/-! tupled -/
def N_tupled : List Str := ["value", "part"]
theorem sc_tupled : FnScope N_tupled ["value"] (defScope (top 4)) := ⟨rfl, rfl, rfl, by decide +kernel, rfl, by decide +kernel, by decide +kernel⟩
def f_tupled (dself : List Sl → DR) : T → SR :=
  sRet (sIte (sTru (toB (frz (sIsi ["list", "tuple"] (sRd 0))))) (sCB (g1 gTuple) (sBCons (toB (frz (sLc (sItems (frz (sVar 0))) (gNm 1) (fun τ => .ok true τ) (frz (sCall dself (sBCons (toB (frz (sVar 1))) (sBNil)))) [1]))) (sBNil))) (sVar 0))
def den_tupled : Nat → List Sl → DR
  | 0 => fun _ => .stuck
  | n + 1 => run 1 (f_tupled (den_tupled n))
def c0_tupled (dself : List Sl → DR) : D → T → Rs (Option D) :=
  turnC (gNm 1) (fun τ => .ok true τ) (frz (sCall dself (sBCons (toB (frz (sVar 1))) (sBNil)))) [1]
theorem nE_tupled (dself : List Sl → DR) : f_tupled dself = (sRet (sIte (sTru (toB (frz (sIsi ["list", "tuple"] (sRd 0))))) (sCB (g1 gTuple) (sBCons (toB (frz (sLcB (sItems (frz (sVar 0))) (c0_tupled dself) [1]))) (sBNil))) (sVar 0))) := rfl
theorem ok_tupled (B : Blt mg) (D_tupled : DefOk K mg "tupled" (top 4) ["value"])  : ∀ n : Nat, Callee P w K mg base px "tupled" (defArgs (top 4)) ["value"] (n + 0) (den_tupled n)
  | 0 => callee0 D_tupled
  | n + 1 => by
    have cself := ok_tupled B D_tupled  n
    have e1 : n + 1 + 0 = (n + 0) + 1 := by omega
    rw [e1]
    have scN := sc_tupled
    refine callee (k := n + 0) (m := 1) (g := f_tupled (den_tupled n)) D_tupled sc_tupled rfl fun f cdv A outer s H E hr tk po => ?_
    have hu64 := hr.units
    have hu65 : (A.deeper (envOfC "tupled" (defScope (top 4)) s.heap.objs.size f cdv)).units + 65 < cLine := by have := hr.un; omega
    have hu1 : (A.deeper (envOfC "tupled" (defScope (top 4)) s.heap.objs.size f cdv)).units + 1 < cLine := by have := hr.un; omega
    exact jss_one (js_ret (jx_ife (jt_truth (JE.b (JX.frz (jx_isi2 rfl B.isinstance (jb_rd (pv 0)) rfl B.list boot_list (by decide) (by decide) (by decide) rfl B.tuple boot_tuple (by decide) (by decide) (by decide) rfl))) (fun _ => rfl)) (jx_callTy (cr_tupleU rfl) rfl B.tuple boot_tuple (jab_cons (JE.b (JX.frz (jx_lc (own := [("part", 1)]) rfl scN.nd (ji_any (JX.frz (jx_var (pv 0)))) (blkOk_by (own := [("part", 1)]) (N := N_tupled) (by kernel_rfl)) (fun _ _ _ _ _ => jg_name (pg_name (i := 1) scN.nd rfl (by first | exact Or.inl rfl | exact Or.inr rfl)) (by decide)) (fun _ _ _ _ _ => jts_nil) (fun _ _ _ _ _ => JX.frz (jx_own cself (hr.mono (by omega)) takes0 rfl (jab_cons (JE.b (JX.frz (jx_var (pv 1)))) (jab_nil) rfl) (blS bl0) (by decide) rfl rfl)) (fun _ => rfl)))) (jab_nil) rfl) (by decide) (by decide) rfl rfl) (jx_var (pv 0))))
/-! is_in -/
def N_is_in : List Str := ["some", "other", "name"]
theorem sc_is_in : FnScope N_is_in ["some", "other"] (defScope (top 6)) := ⟨rfl, rfl, rfl, by decide +kernel, rfl, by decide +kernel, by decide +kernel⟩
def f_is_in : T → SR :=
  sRet (sCB (g1 gAll) (sBCons (toB (frz (sLc (sItems (frz (sVar 0))) (gNm 2) (fun τ => .ok true τ) (frz (sOp2 (gIn false) (sRd 2) (sRd 1))) [2]))) (sBNil)))
def den_is_in : List Sl → DR := run 1 f_is_in
def c0_is_in : D → T → Rs (Option D) :=
  turnC (gNm 2) (fun τ => .ok true τ) (frz (sOp2 (gIn false) (sRd 2) (sRd 1))) [2]
theorem nE_is_in : f_is_in = (sRet (sCB (g1 gAll) (sBCons (toB (frz (sLcB (sItems (frz (sVar 0))) c0_is_in [2]))) (sBNil)))) := rfl
theorem ok_is_in (B : Blt mg) (D_is_in : DefOk K mg "is_in" (top 6) ["some", "other"])  : Callee P w K mg base px "is_in" (defArgs (top 6)) ["some", "other"] 1 den_is_in := by
  have scN := sc_is_in
  refine callee (k := 0) (m := 1) (g := f_is_in) D_is_in sc_is_in rfl fun f cdv A outer s H E hr tk po => ?_
  have hu64 := hr.units
  have hu65 : (A.deeper (envOfC "is_in" (defScope (top 6)) s.heap.objs.size f cdv)).units + 65 < cLine := by have := hr.un; omega
  have hu1 : (A.deeper (envOfC "is_in" (defScope (top 6)) s.heap.objs.size f cdv)).units + 1 < cLine := by have := hr.un; omega
  exact jss_one (js_ret (jx_callB (cr_allU rfl) rfl B.all boot_all (jab_cons (JE.b (JX.frz (jx_lc (own := [("name", 2)]) rfl scN.nd (ji_any (JX.frz (jx_var (pv 0)))) (blkOk_by (own := [("name", 2)]) (N := N_is_in) (by kernel_rfl)) (fun _ _ _ _ _ => jg_name (pg_name (i := 2) scN.nd rfl (by first | exact Or.inl rfl | exact Or.inr rfl)) (by decide)) (fun _ _ _ _ _ => jts_nil) (fun _ _ _ _ _ => JX.frz (jx_cmp (op_inU hu65) (jb_rd (pv 2)) (jb_rd (pv 1)) rfl)) (fun _ => rfl)))) (jab_nil) rfl) (by decide) (by decide) rfl rfl))
/-! least_of -/
def N_least_of : List Str := ["lots", "lot", "own"]
theorem sc_least_of : FnScope N_least_of ["lots"] (defScope (top 7)) := ⟨rfl, rfl, rfl, by decide +kernel, rfl, by decide +kernel, by decide +kernel⟩
def f_least_of : T → SR :=
  sRet (sCall den_set_of (sBCons (toB (frz (sLc (sItems (frz (sVar 0))) (gNm 1) (sNot (sTru (toB (frz (sCB (g1 gAny) (sBCons (toB (frz (sLc (sItems (frz (sVar 0))) (gNm 2) (sTB (sOp2 (gEq true) (sRd 2) (sRd 1))) (frz (sCall den_is_in (sBCons (toB (frz (sVar 2))) (sBCons (toB (frz (sVar 1))) (sBNil))))) [2]))) (sBNil))))))) (frz (sVar 1)) [1]))) (sBNil)))
def den_least_of : List Sl → DR := run 2 f_least_of
def c0_least_of : D → T → Rs (Option D) :=
  turnC (gNm 2) (sTB (sOp2 (gEq true) (sRd 2) (sRd 1))) (frz (sCall den_is_in (sBCons (toB (frz (sVar 2))) (sBCons (toB (frz (sVar 1))) (sBNil))))) [2]
def c1_least_of : D → T → Rs (Option D) :=
  turnC (gNm 1) (sNot (sTru (toB (frz (sCB (g1 gAny) (sBCons (toB (frz (sLcB (sItems (frz (sVar 0))) c0_least_of [2]))) (sBNil))))))) (frz (sVar 1)) [1]
theorem nE_least_of : f_least_of = (sRet (sCall den_set_of (sBCons (toB (frz (sLcB (sItems (frz (sVar 0))) c1_least_of [1]))) (sBNil)))) := rfl
theorem ok_least_of (B : Blt mg) (D_least_of : DefOk K mg "least_of" (top 7) ["lots"]) (C_set_of : Callee P w K mg base px "set_of" (defArgs (top 3)) ["some"] 1 den_set_of) (C_is_in : Callee P w K mg base px "is_in" (defArgs (top 6)) ["some", "other"] 1 den_is_in) : Callee P w K mg base px "least_of" (defArgs (top 7)) ["lots"] 2 den_least_of := by
  have scN := sc_least_of
  refine callee (k := 1) (m := 2) (g := f_least_of) D_least_of sc_least_of rfl fun f cdv A outer s H E hr tk po => ?_
  have hu64 := hr.units
  have hu65 : (A.deeper (envOfC "least_of" (defScope (top 7)) s.heap.objs.size f cdv)).units + 65 < cLine := by have := hr.un; omega
  have hu1 : (A.deeper (envOfC "least_of" (defScope (top 7)) s.heap.objs.size f cdv)).units + 1 < cLine := by have := hr.un; omega
  exact jss_one (js_ret (jx_own C_set_of (hr.mono (by decide)) tk rfl (jab_cons (JE.b (JX.frz (jx_lc (own := [("lot", 1)]) rfl scN.nd (ji_any (JX.frz (jx_var (pv 0)))) (blkOk_by (own := [("lot", 1)]) (N := N_least_of) (by kernel_rfl)) (fun _ _ _ _ _ => jg_name (pg_name (i := 1) scN.nd rfl (by first | exact Or.inl rfl | exact Or.inr rfl)) (by decide)) (fun _ _ _ _ _ => jts_one (jt_not (jt_truth (JE.b (JX.frz (jx_callB (cr_anyU rfl) rfl B.any boot_any (jab_cons (JE.b (JX.frz (jx_lc (own := [("own", 2)]) rfl scN.nd (ji_any (JX.frz (jx_var (pv 0)))) (blkOk_by (own := [("own", 2)]) (N := N_least_of) (by kernel_rfl)) (fun _ _ _ _ _ => jg_name (pg_name (i := 2) scN.nd rfl (by first | exact Or.inl rfl | exact Or.inr rfl)) (by decide)) (fun _ _ _ _ _ => jts_one (jt_cmp (op_neU hu64) (jb_rd (pv 2)) (jb_rd (pv 1)) rfl)) (fun _ _ _ _ _ => JX.frz (jx_own C_is_in (hr.mono (by decide)) takes0 rfl (jab_cons (JE.b (JX.frz (jx_var (pv 2)))) (jab_cons (JE.b (JX.frz (jx_var (pv 1)))) (jab_nil) rfl) rfl) (blS (blS bl0)) (by decide) rfl rfl)) (fun _ => rfl)))) (jab_nil) rfl) (by decide) (by decide) rfl rfl))) (fun _ => rfl)))) (fun _ _ _ _ _ => JX.frz (jx_var (pv 1))) (fun _ => rfl)))) (jab_nil) rfl) (blS bl0) (by decide) rfl rfl))
/-! told_for -/
def N_told_for : List Str := ["places", "unit", "came", "up", "name", "well"]
theorem sc_told_for : FnScope N_told_for ["places", "unit", "came"] (defScope (top 9)) := ⟨rfl, rfl, rfl, by decide +kernel, rfl, by decide +kernel, by decide +kernel⟩
def f_told_for : T → SR :=
  sRet (sLc (sItems (frz (sCall (den_tupled 12) (sBCons (toB (frz (sVar 0))) (sBNil))))) (gTp 3 (gN1 (gNm 3) (gN1 (gNm 4) (gN1 (gNm 5) (gN0))))) (sAnd (sTB (sOp2 (gEq false) (sRd 4) (sRd 1))) (sTB (sOp2 (gEq false) (sRd 5) (sRd 2)))) (frz (sCall den_set_of (sBCons (toB (frz (sVar 3))) (sBNil)))) [3, 4, 5])
def den_told_for : List Sl → DR := run 3 f_told_for
def c0_told_for : D → T → Rs (Option D) :=
  turnC (gTp 3 (gN1 (gNm 3) (gN1 (gNm 4) (gN1 (gNm 5) (gN0))))) (sAnd (sTB (sOp2 (gEq false) (sRd 4) (sRd 1))) (sTB (sOp2 (gEq false) (sRd 5) (sRd 2)))) (frz (sCall den_set_of (sBCons (toB (frz (sVar 3))) (sBNil)))) [3, 4, 5]
theorem nE_told_for : f_told_for = (sRet (sLcB (sItems (frz (sCall (den_tupled 12) (sBCons (toB (frz (sVar 0))) (sBNil))))) c0_told_for [3, 4, 5])) := rfl
theorem ok_told_for (B : Blt mg) (D_told_for : DefOk K mg "told_for" (top 9) ["places", "unit", "came"]) (C_tupled : Callee P w K mg base px "tupled" (defArgs (top 4)) ["value"] 12 (den_tupled 12)) (C_set_of : Callee P w K mg base px "set_of" (defArgs (top 3)) ["some"] 1 den_set_of) : Callee P w K mg base px "told_for" (defArgs (top 9)) ["places", "unit", "came"] 13 den_told_for := by
  have scN := sc_told_for
  refine callee (k := 12) (m := 3) (g := f_told_for) D_told_for sc_told_for rfl fun f cdv A outer s H E hr tk po => ?_
  have hu64 := hr.units
  have hu65 : (A.deeper (envOfC "told_for" (defScope (top 9)) s.heap.objs.size f cdv)).units + 65 < cLine := by have := hr.un; omega
  have hu1 : (A.deeper (envOfC "told_for" (defScope (top 9)) s.heap.objs.size f cdv)).units + 1 < cLine := by have := hr.un; omega
  exact jss_one (js_ret (jx_lc (own := [("up", 3), ("name", 4), ("well", 5)]) rfl scN.nd (ji_any (JX.frz (jx_own C_tupled (hr.mono (by decide)) tk rfl (jab_cons (JE.b (JX.frz (jx_var (pv 0)))) (jab_nil) rfl) (blS bl0) (by decide) rfl rfl))) (blkOk_by (own := [("up", 3), ("name", 4), ("well", 5)]) (N := N_told_for) (by kernel_rfl)) (fun _ _ _ _ _ => jg_tup rfl (jgs_cons (jg_name (pg_name (i := 3) scN.nd rfl (by first | exact Or.inl rfl | exact Or.inr rfl)) (by decide)) (jgs_cons (jg_name (pg_name (i := 4) scN.nd rfl (by first | exact Or.inl rfl | exact Or.inr rfl)) (by decide)) (jgs_cons (jg_name (pg_name (i := 5) scN.nd rfl (by first | exact Or.inl rfl | exact Or.inr rfl)) (by decide)) (jgs_nil) rfl) rfl) rfl) rfl rfl) (fun _ _ _ _ _ => jts_one (JW.t (jw_and (jt_cmp (op_eqU hu64) (jb_rd (pv 4)) (jb_rd (pv 1)) rfl) (jw_and1 (jt_cmp (op_eqU hu64) (jb_rd (pv 5)) (jb_rd (pv 2)) rfl))))) (fun _ _ _ _ _ => JX.frz (jx_own C_set_of (hr.mono (by decide)) takes0 rfl (jab_cons (JE.b (JX.frz (jx_var (pv 3)))) (jab_nil) rfl) (blS bl0) (by decide) rfl rfl)) (fun _ => rfl)))
/-! is_clear -/
def N_is_clear : List Str := ["places", "unit", "bars", "up", "far"]
theorem sc_is_clear : FnScope N_is_clear ["places", "unit"] (defScope (top 10)) := ⟨rfl, rfl, rfl, by decide +kernel, rfl, by decide +kernel, by decide +kernel⟩
def f_is_clear : T → SR :=
  sSeq (sSet 2 (sCall den_told_for (sBCons (toB (frz (sVar 0))) (sBCons (toB (frz (sVar 1))) (sBCons (toB (frz (sC (.bl false)))) (sBNil)))))) (sRet (sNotV (sCB (g1 gAny) (sBCons (toB (frz (sLc2 (sItems (frz (sCall den_told_for (sBCons (toB (frz (sVar 0))) (sBCons (toB (frz (sVar 1))) (sBCons (toB (frz (sC (.bl true)))) (sBNil))))))) (gNm 3) (fun τ => .ok true τ) (sItems (frz (sVar 2))) (gNm 4) (fun τ => .ok true τ) (frz (sCall den_is_in (sBCons (toB (frz (sVar 3))) (sBCons (toB (frz (sVar 4))) (sBNil))))) [3, 4] [4]))) (sBNil)))))
def den_is_clear : List Sl → DR := run 3 f_is_clear
def c0_is_clear : D → T → Rs (Option D) :=
  turnC (gNm 4) (fun τ => .ok true τ) (frz (sCall den_is_in (sBCons (toB (frz (sVar 3))) (sBCons (toB (frz (sVar 4))) (sBNil))))) [4]
def e0_is_clear : D → T → List D → Rs (List D) :=
  turnC2 (gNm 3) (fun τ => .ok true τ) (sItems (frz (sVar 2))) c0_is_clear [3, 4] [4]
theorem nE_is_clear : f_is_clear = (sSeq (sSet 2 (sCall den_told_for (sBCons (toB (frz (sVar 0))) (sBCons (toB (frz (sVar 1))) (sBCons (toB (frz (sC (.bl false)))) (sBNil)))))) (sRet (sNotV (sCB (g1 gAny) (sBCons (toB (frz (sLc2B (sItems (frz (sCall den_told_for (sBCons (toB (frz (sVar 0))) (sBCons (toB (frz (sVar 1))) (sBCons (toB (frz (sC (.bl true)))) (sBNil))))))) e0_is_clear [3, 4]))) (sBNil)))))) := rfl
theorem ok_is_clear (B : Blt mg) (D_is_clear : DefOk K mg "is_clear" (top 10) ["places", "unit"]) (C_told_for : Callee P w K mg base px "told_for" (defArgs (top 9)) ["places", "unit", "came"] 13 den_told_for) (C_is_in : Callee P w K mg base px "is_in" (defArgs (top 6)) ["some", "other"] 1 den_is_in) : Callee P w K mg base px "is_clear" (defArgs (top 10)) ["places", "unit"] 14 den_is_clear := by
  have scN := sc_is_clear
  refine callee (k := 13) (m := 3) (g := f_is_clear) D_is_clear sc_is_clear rfl fun f cdv A outer s H E hr tk po => ?_
  have hu64 := hr.units
  have hu65 : (A.deeper (envOfC "is_clear" (defScope (top 10)) s.heap.objs.size f cdv)).units + 65 < cLine := by have := hr.un; omega
  have hu1 : (A.deeper (envOfC "is_clear" (defScope (top 10)) s.heap.objs.size f cdv)).units + 1 < cLine := by have := hr.un; omega
  exact jss_cons (js_asg (ps_set (i := 2) scN.nd rfl (by first | exact Or.inl rfl | exact Or.inr rfl) (jx_own C_told_for (hr.mono (by decide)) tk rfl (jab_cons (JE.b (JX.frz (jx_var (pv 0)))) (jab_cons (JE.b (JX.frz (jx_var (pv 1)))) (jab_cons (JE.b (JX.frz (jx_bl))) (jab_nil) rfl) rfl) rfl) (blS (blS (blS bl0))) (by decide) rfl rfl) (by first | rfl | exact sw_false_name | decide)) (fun _ _ _ h => h))
      (jss_one (js_ret (jx_not (jx_callB (cr_anyU rfl) rfl B.any boot_any (jab_cons (JE.b (JX.frz (jx_lc2 (vs1 := [4]) (own := [("up", 3), ("far", 4)]) rfl scN.nd (ji_any (JX.frz (jx_own C_told_for (hr.mono (by decide)) tk rfl (jab_cons (JE.b (JX.frz (jx_var (pv 0)))) (jab_cons (JE.b (JX.frz (jx_var (pv 1)))) (jab_cons (JE.b (JX.frz (jx_bl))) (jab_nil) rfl) rfl) rfl) (blS (blS (blS bl0))) (by decide) rfl rfl))) (blkOk_by (own := [("up", 3), ("far", 4)]) (N := N_is_clear) (by kernel_rfl)) (by decide) (fun _ _ _ _ _ => jg_name (pg_name (i := 3) scN.nd rfl (by first | exact Or.inl rfl | exact Or.inr rfl)) (by decide)) (fun _ _ _ _ _ => jts_nil) (fun _ _ _ _ _ => ji_any (JX.frz (jx_var (pv 2)))) (fun _ _ _ _ _ => jg_name (pg_name (i := 4) scN.nd rfl (by first | exact Or.inl rfl | exact Or.inr rfl)) (by decide)) (fun _ _ _ _ _ => jts_nil) (fun _ _ _ _ _ => JX.frz (jx_own C_is_in (hr.mono (by decide)) takes0 rfl (jab_cons (JE.b (JX.frz (jx_var (pv 3)))) (jab_cons (JE.b (JX.frz (jx_var (pv 4)))) (jab_nil) rfl) rfl) (blS (blS bl0)) (by decide) rfl rfl)) (fun _ => rfl) (fun _ _ => rfl)))) (jab_nil) rfl) (by decide) (by decide) rfl rfl))))
/-! can_fit_places -/
def N_can_fit_places : List Str := ["names", "places", "unit"]
theorem sc_can_fit_places : FnScope N_can_fit_places ["names", "places"] (defScope (top 11)) := ⟨rfl, rfl, rfl, by decide +kernel, rfl, by decide +kernel, by decide +kernel⟩
def f_can_fit_places : T → SR :=
  sRet (sCB (g1 gAll) (sBCons (toB (frz (sLc (sItems (frz (sVar 0))) (gNm 2) (fun τ => .ok true τ) (frz (sCall den_is_clear (sBCons (toB (frz (sVar 1))) (sBCons (toB (frz (sVar 2))) (sBNil))))) [2]))) (sBNil)))
def den_can_fit_places : List Sl → DR := run 1 f_can_fit_places
def c0_can_fit_places : D → T → Rs (Option D) :=
  turnC (gNm 2) (fun τ => .ok true τ) (frz (sCall den_is_clear (sBCons (toB (frz (sVar 1))) (sBCons (toB (frz (sVar 2))) (sBNil))))) [2]
theorem nE_can_fit_places : f_can_fit_places = (sRet (sCB (g1 gAll) (sBCons (toB (frz (sLcB (sItems (frz (sVar 0))) c0_can_fit_places [2]))) (sBNil)))) := rfl
theorem ok_can_fit_places (B : Blt mg) (D_can_fit_places : DefOk K mg "can_fit_places" (top 11) ["names", "places"]) (C_is_clear : Callee P w K mg base px "is_clear" (defArgs (top 10)) ["places", "unit"] 14 den_is_clear) : Callee P w K mg base px "can_fit_places" (defArgs (top 11)) ["names", "places"] 15 den_can_fit_places := by
  have scN := sc_can_fit_places
  refine callee (k := 14) (m := 1) (g := f_can_fit_places) D_can_fit_places sc_can_fit_places rfl fun f cdv A outer s H E hr tk po => ?_
  have hu64 := hr.units
  have hu65 : (A.deeper (envOfC "can_fit_places" (defScope (top 11)) s.heap.objs.size f cdv)).units + 65 < cLine := by have := hr.un; omega
  have hu1 : (A.deeper (envOfC "can_fit_places" (defScope (top 11)) s.heap.objs.size f cdv)).units + 1 < cLine := by have := hr.un; omega
  exact jss_one (js_ret (jx_callB (cr_allU rfl) rfl B.all boot_all (jab_cons (JE.b (JX.frz (jx_lc (own := [("unit", 2)]) rfl scN.nd (ji_any (JX.frz (jx_var (pv 0)))) (blkOk_by (own := [("unit", 2)]) (N := N_can_fit_places) (by kernel_rfl)) (fun _ _ _ _ _ => jg_name (pg_name (i := 2) scN.nd rfl (by first | exact Or.inl rfl | exact Or.inr rfl)) (by decide)) (fun _ _ _ _ _ => jts_nil) (fun _ _ _ _ _ => JX.frz (jx_own C_is_clear (hr.mono (by decide)) takes0 rfl (jab_cons (JE.b (JX.frz (jx_var (pv 1)))) (jab_cons (JE.b (JX.frz (jx_var (pv 2)))) (jab_nil) rfl) rfl) (blS (blS bl0)) (by decide) rfl rfl)) (fun _ => rfl)))) (jab_nil) rfl) (by decide) (by decide) rfl rfl))
/-! check_fit -/
def N_check_fit : List Str := ["names", "places"]
theorem sc_check_fit : FnScope N_check_fit ["names", "places"] (defScope (top 12)) := ⟨rfl, rfl, rfl, by decide +kernel, rfl, by decide +kernel, by decide +kernel⟩
def f_check_fit : T → SR :=
  sIfS (sNot (sTru (toB (frz (sCall den_can_fit_places (sBCons (toB (frz (sVar 0))) (sBCons (toB (frz (sVar 1))) (sBNil)))))))) (fun _ => .stuck) (sNext)
def den_check_fit : List Sl → DR := run 0 f_check_fit
theorem ok_check_fit (B : Blt mg) (D_check_fit : DefOk K mg "check_fit" (top 12) ["names", "places"]) (C_can_fit_places : Callee P w K mg base px "can_fit_places" (defArgs (top 11)) ["names", "places"] 15 den_can_fit_places) : Callee P w K mg base px "check_fit" (defArgs (top 12)) ["names", "places"] 16 den_check_fit := by
  have scN := sc_check_fit
  refine callee (k := 15) (m := 0) (g := f_check_fit) D_check_fit sc_check_fit rfl fun f cdv A outer s H E hr tk po => ?_
  have hu64 := hr.units
  have hu65 : (A.deeper (envOfC "check_fit" (defScope (top 12)) s.heap.objs.size f cdv)).units + 65 < cLine := by have := hr.un; omega
  have hu1 : (A.deeper (envOfC "check_fit" (defScope (top 12)) s.heap.objs.size f cdv)).units + 1 < cLine := by have := hr.un; omega
  exact jss_one (js_if (jt_not (jt_truth (JE.b (JX.frz (jx_own C_can_fit_places (hr.mono (by decide)) tk rfl (jab_cons (JE.b (JX.frz (jx_var (pv 0)))) (jab_cons (JE.b (JX.frz (jx_var (pv 1)))) (jab_nil) rfl) rfl) (blS (blS bl0)) (by decide) rfl rfl))) (fun _ => rfl))) (jss_one (js_stuck)) (jss_nil))
/-! lowest_book -/
def N_lowest_book : List Str := ["names", "places", "unit"]
theorem sc_lowest_book : FnScope N_lowest_book ["names", "places"] (defScope (top 13)) := ⟨rfl, rfl, rfl, by decide +kernel, rfl, by decide +kernel, by decide +kernel⟩
def f_lowest_book : T → SR :=
  sSeq (sDrop (sCall den_check_fit (sBCons (toB (frz (sVar 0))) (sBCons (toB (frz (sVar 1))) (sBNil))))) (sRet (sCB (g1 gTuple) (sBCons (toB (frz (sLc (sItems (frz (sCB (g1 gSorted) (sBCons (sRd 0) (sBNil))))) (gNm 2) (fun τ => .ok true τ) (frz (sTup (sCons (frz (sVar 2)) (sCons (frz (sCall den_least_of (sBCons (toB (frz (sCall den_told_for (sBCons (toB (frz (sVar 1))) (sBCons (toB (frz (sVar 2))) (sBCons (toB (frz (sC (.bl true)))) (sBNil))))))) (sBNil)))) (sNil))))) [2]))) (sBNil))))
def den_lowest_book : List Sl → DR := run 1 f_lowest_book
def c0_lowest_book : D → T → Rs (Option D) :=
  turnC (gNm 2) (fun τ => .ok true τ) (frz (sTup (sCons (frz (sVar 2)) (sCons (frz (sCall den_least_of (sBCons (toB (frz (sCall den_told_for (sBCons (toB (frz (sVar 1))) (sBCons (toB (frz (sVar 2))) (sBCons (toB (frz (sC (.bl true)))) (sBNil))))))) (sBNil)))) (sNil))))) [2]
theorem nE_lowest_book : f_lowest_book = (sSeq (sDrop (sCall den_check_fit (sBCons (toB (frz (sVar 0))) (sBCons (toB (frz (sVar 1))) (sBNil))))) (sRet (sCB (g1 gTuple) (sBCons (toB (frz (sLcB (sItems (frz (sCB (g1 gSorted) (sBCons (sRd 0) (sBNil))))) c0_lowest_book [2]))) (sBNil))))) := rfl
theorem ok_lowest_book (B : Blt mg) (D_lowest_book : DefOk K mg "lowest_book" (top 13) ["names", "places"]) (C_check_fit : Callee P w K mg base px "check_fit" (defArgs (top 12)) ["names", "places"] 16 den_check_fit) (C_least_of : Callee P w K mg base px "least_of" (defArgs (top 7)) ["lots"] 2 den_least_of) (C_told_for : Callee P w K mg base px "told_for" (defArgs (top 9)) ["places", "unit", "came"] 13 den_told_for) : Callee P w K mg base px "lowest_book" (defArgs (top 13)) ["names", "places"] 17 den_lowest_book := by
  have scN := sc_lowest_book
  refine callee (k := 16) (m := 1) (g := f_lowest_book) D_lowest_book sc_lowest_book rfl fun f cdv A outer s H E hr tk po => ?_
  have hu64 := hr.units
  have hu65 : (A.deeper (envOfC "lowest_book" (defScope (top 13)) s.heap.objs.size f cdv)).units + 65 < cLine := by have := hr.un; omega
  have hu1 : (A.deeper (envOfC "lowest_book" (defScope (top 13)) s.heap.objs.size f cdv)).units + 1 < cLine := by have := hr.un; omega
  exact jss_cons (js_expr (jx_own C_check_fit (hr.mono (by decide)) tk rfl (jab_cons (JE.b (JX.frz (jx_var (pv 0)))) (jab_cons (JE.b (JX.frz (jx_var (pv 1)))) (jab_nil) rfl) rfl) (blS (blS bl0)) (by decide) rfl rfl) rfl)
      (jss_one (js_ret (jx_callTy (cr_tupleU rfl) rfl B.tuple boot_tuple (jab_cons (JE.b (JX.frz (jx_lc (own := [("unit", 2)]) rfl scN.nd (ji_any (JX.frz (jx_callB (cr_sortedU hu64) rfl B.sorted boot_sorted (jab_cons (jb_rd (pv 0)) (jab_nil) rfl) (by decide) (by decide) rfl rfl))) (blkOk_by (own := [("unit", 2)]) (N := N_lowest_book) (by kernel_rfl)) (fun _ _ _ _ _ => jg_name (pg_name (i := 2) scN.nd rfl (by first | exact Or.inl rfl | exact Or.inr rfl)) (by decide)) (fun _ _ _ _ _ => jts_nil) (fun _ _ _ _ _ => JX.frz (jx_tup (ja_cons (JX.frz (jx_var (pv 2))) (ja_cons (JX.frz (jx_own C_least_of (hr.mono (by decide)) takes0 rfl (jab_cons (JE.b (JX.frz (jx_own C_told_for (hr.mono (by decide)) takes0 rfl (jab_cons (JE.b (JX.frz (jx_var (pv 1)))) (jab_cons (JE.b (JX.frz (jx_var (pv 2)))) (jab_cons (JE.b (JX.frz (jx_bl))) (jab_nil) rfl) rfl) rfl) (blS (blS (blS bl0))) (by decide) rfl rfl))) (jab_nil) rfl) (blS bl0) (by decide) rfl rfl)) (ja_nil) rfl) rfl))) (fun _ => rfl)))) (jab_nil) rfl) (by decide) (by decide) rfl rfl)))
/-! past_all -/
def N_past_all : List Str := ["names", "bars", "lots", "bar", "wide", "more", "lot", "name"]
theorem sc_past_all : FnScope N_past_all ["names", "bars"] (defScope (top 14)) := ⟨rfl, rfl, rfl, by decide +kernel, rfl, by decide +kernel, by decide +kernel⟩
def f_past_all : T → SR :=
  sSeq (sSet 2 (sLst (sCons (frz (sTup (sNil))) (sNil)))) (sSeq (sFor (sItems (frz (sVar 1))) (gNm 3) (sSeq (sSet 4 (sLc (sItems (frz (sVar 2))) (gNm 6) (sNot (sTru (toB (frz (sCall den_is_in (sBCons (toB (frz (sVar 6))) (sBCons (toB (frz (sVar 3))) (sBNil)))))))) (frz (sVar 6)) [6])) (sSeq (sSet 5 (sLc2 (sItems (frz (sVar 2))) (gNm 6) (sTru (toB (frz (sCall den_is_in (sBCons (toB (frz (sVar 6))) (sBCons (toB (frz (sVar 3))) (sBNil))))))) (sItems (frz (sVar 0))) (gNm 7) (sTB (sOp2 (gIn true) (sRd 7) (sRd 3))) (frz (sCall den_set_of (sBCons (toB (frz (sTup (sStar (sRd 6) (sCons (frz (sVar 7)) (sNil)))))) (sBNil)))) [6, 7] [7])) (sSet 2 (sCB (g1 gList) (sBCons (toB (frz (sCall den_least_of (sBCons (toB (frz (sCall den_set_of (sBCons (toB (frz (sLst (sStar (sRd 4) (sStar (sRd 5) (sNil)))))) (sBNil))))) (sBNil))))) (sBNil))))))) (sRet (sCall den_set_of (sBCons (toB (frz (sVar 2))) (sBNil)))))
def den_past_all : List Sl → DR := run 6 f_past_all
def c0_past_all : D → T → Rs (Option D) :=
  turnC (gNm 6) (sNot (sTru (toB (frz (sCall den_is_in (sBCons (toB (frz (sVar 6))) (sBCons (toB (frz (sVar 3))) (sBNil)))))))) (frz (sVar 6)) [6]
def c1_past_all : D → T → Rs (Option D) :=
  turnC (gNm 7) (sTB (sOp2 (gIn true) (sRd 7) (sRd 3))) (frz (sCall den_set_of (sBCons (toB (frz (sTup (sStar (sRd 6) (sCons (frz (sVar 7)) (sNil)))))) (sBNil)))) [7]
def e0_past_all : D → T → List D → Rs (List D) :=
  turnC2 (gNm 6) (sTru (toB (frz (sCall den_is_in (sBCons (toB (frz (sVar 6))) (sBCons (toB (frz (sVar 3))) (sBNil))))))) (sItems (frz (sVar 0))) c1_past_all [6, 7] [7]
def b0_past_all : D → T → SR :=
  sBody (gNm 3) (sSeq (sSet 4 (sLcB (sItems (frz (sVar 2))) c0_past_all [6])) (sSeq (sSet 5 (sLc2B (sItems (frz (sVar 2))) e0_past_all [6, 7])) (sSet 2 (sCB (g1 gList) (sBCons (toB (frz (sCall den_least_of (sBCons (toB (frz (sCall den_set_of (sBCons (toB (frz (sLst (sStar (sRd 4) (sStar (sRd 5) (sNil)))))) (sBNil))))) (sBNil))))) (sBNil))))))
theorem nE_past_all : f_past_all = (sSeq (sSet 2 (sLst (sCons (frz (sTup (sNil))) (sNil)))) (sSeq (sForB (sItems (frz (sVar 1))) b0_past_all) (sRet (sCall den_set_of (sBCons (toB (frz (sVar 2))) (sBNil)))))) := rfl
theorem ok_past_all (B : Blt mg) (D_past_all : DefOk K mg "past_all" (top 14) ["names", "bars"]) (C_is_in : Callee P w K mg base px "is_in" (defArgs (top 6)) ["some", "other"] 1 den_is_in) (C_set_of : Callee P w K mg base px "set_of" (defArgs (top 3)) ["some"] 1 den_set_of) (C_least_of : Callee P w K mg base px "least_of" (defArgs (top 7)) ["lots"] 2 den_least_of) : Callee P w K mg base px "past_all" (defArgs (top 14)) ["names", "bars"] 3 den_past_all := by
  have scN := sc_past_all
  refine callee (k := 2) (m := 6) (g := f_past_all) D_past_all sc_past_all rfl fun f cdv A outer s H E hr tk po => ?_
  have hu64 := hr.units
  have hu65 : (A.deeper (envOfC "past_all" (defScope (top 14)) s.heap.objs.size f cdv)).units + 65 < cLine := by have := hr.un; omega
  have hu1 : (A.deeper (envOfC "past_all" (defScope (top 14)) s.heap.objs.size f cdv)).units + 1 < cLine := by have := hr.un; omega
  exact jss_cons (js_asg (ps_set (i := 2) scN.nd rfl (by first | exact Or.inl rfl | exact Or.inr rfl) (jx_lst (ja_cons (JX.frz (jx_tup (ja_nil))) (ja_nil) rfl)) (by first | rfl | exact sw_false_name | decide)) (fun _ _ _ h => h))
      (jss_cons (js_for (gs := [3]) po rfl (ji_any (JX.frz (jx_var (pv 1)))) (jg_name (pg_name (i := 3) scN.nd rfl (by first | exact Or.inl rfl | exact Or.inr rfl)) (by decide)) (jss_cons (js_setLc (i := 4) (own := [("lot", 6)]) rfl scN.nd rfl rfl (sw_true rfl rfl rfl (by decide +kernel)) (ji_any (JX.frz (jx_var (pv 2)))) (blkOk_by (own := [("lot", 6)]) (N := N_past_all) (by kernel_rfl)) (fun _ _ _ _ _ => jg_name (pg_name (i := 6) scN.nd rfl (by first | exact Or.inl rfl | exact Or.inr rfl)) (by decide)) (fun _ _ _ _ _ => jts_one (jt_not (jt_truth (JE.b (JX.frz (jx_own C_is_in (hr.mono (by decide)) takes0 rfl (jab_cons (JE.b (JX.frz (jx_var (pv 6)))) (jab_cons (JE.b (JX.frz (jx_var (pv 3)))) (jab_nil) rfl) rfl) (blS (blS bl0)) (by decide) rfl rfl))) (fun _ => rfl)))) (fun _ _ _ _ _ => JX.frz (jx_var (pv 6))) (fun _ => rfl))
      (jss_cons (js_setLc2 (i := 5) (vs1 := [7]) (own := [("lot", 6), ("name", 7)]) rfl scN.nd rfl rfl (sw_true rfl rfl rfl (by decide +kernel)) (ji_any (JX.frz (jx_var (pv 2)))) (blkOk_by (own := [("lot", 6), ("name", 7)]) (N := N_past_all) (by kernel_rfl)) (by decide) (fun _ _ _ _ _ => jg_name (pg_name (i := 6) scN.nd rfl (by first | exact Or.inl rfl | exact Or.inr rfl)) (by decide)) (fun _ _ _ _ _ => jts_one (jt_truth (JE.b (JX.frz (jx_own C_is_in (hr.mono (by decide)) takes0 rfl (jab_cons (JE.b (JX.frz (jx_var (pv 6)))) (jab_cons (JE.b (JX.frz (jx_var (pv 3)))) (jab_nil) rfl) rfl) (blS (blS bl0)) (by decide) rfl rfl))) (fun _ => rfl))) (fun _ _ _ _ _ => ji_any (JX.frz (jx_var (pv 0)))) (fun _ _ _ _ _ => jg_name (pg_name (i := 7) scN.nd rfl (by first | exact Or.inl rfl | exact Or.inr rfl)) (by decide)) (fun _ _ _ _ _ => jts_one (jt_cmp (op_notInU hu65) (jb_rd (pv 7)) (jb_rd (pv 3)) rfl)) (fun _ _ _ _ _ => JX.frz (jx_own C_set_of (hr.mono (by decide)) takes0 rfl (jab_cons (JE.b (JX.frz (jx_tup (ja_star (jb_rd (pv 6)) (ja_cons (JX.frz (jx_var (pv 7))) (ja_nil) rfl) rfl)))) (jab_nil) rfl) (blS bl0) (by decide) rfl rfl)) (fun _ => rfl) (fun _ _ => rfl))
      (jss_one (js_asg (ps_set (i := 2) scN.nd rfl (by first | exact Or.inl rfl | exact Or.inr rfl) (jx_callTy cr_listU rfl B.list boot_list (jab_cons (JE.b (JX.frz (jx_own C_least_of (hr.mono (by decide)) tk rfl (jab_cons (JE.b (JX.frz (jx_own C_set_of (hr.mono (by decide)) tk rfl (jab_cons (JE.b (JX.frz (jx_lst (ja_star (jb_rd (pv 4)) (ja_star (jb_rd (pv 5)) (ja_nil) rfl) rfl)))) (jab_nil) rfl) (blS bl0) (by decide) rfl rfl))) (jab_nil) rfl) (blS bl0) (by decide) rfl rfl))) (jab_nil) rfl) (by decide) (by decide) rfl rfl) (by first | rfl | exact sw_false_name | decide)) (fun _ _ _ h => h))))) (fun _ => rfl))
      (jss_one (js_ret (jx_own C_set_of (hr.mono (by decide)) tk rfl (jab_cons (JE.b (JX.frz (jx_var (pv 2)))) (jab_nil) rfl) (blS bl0) (by decide) rfl rfl))))
/-! highest_book -/
def N_highest_book : List Str := ["names", "places", "found", "unit", "others", "name"]
theorem sc_highest_book : FnScope N_highest_book ["names", "places"] (defScope (top 15)) := ⟨rfl, rfl, rfl, by decide +kernel, rfl, by decide +kernel, by decide +kernel⟩
def f_highest_book : T → SR :=
  sSeq (sDrop (sCall den_check_fit (sBCons (toB (frz (sVar 0))) (sBCons (toB (frz (sVar 1))) (sBNil))))) (sSeq (sSet 2 (sLst (sNil))) (sSeq (sFor (sItems (frz (sCB (g1 gSorted) (sBCons (sRd 0) (sBNil))))) (gNm 3) (sSeq (sSet 4 (sLc (sItems (frz (sCB (g1 gSorted) (sBCons (sRd 0) (sBNil))))) (gNm 5) (sTB (sOp2 (gEq true) (sRd 5) (sRd 3))) (frz (sVar 5)) [5])) (sDrop (sMeth 2 mAppend (sCons (frz (sTup (sCons (frz (sVar 3)) (sCons (frz (sCall den_past_all (sBCons (toB (frz (sVar 4))) (sBCons (toB (frz (sCall den_told_for (sBCons (toB (frz (sVar 1))) (sBCons (toB (frz (sVar 3))) (sBCons (toB (frz (sC (.bl false)))) (sBNil))))))) (sBNil))))) (sNil))))) (sNil)))))) (sRet (sCB (g1 gTuple) (sBCons (sRd 2) (sBNil))))))
def den_highest_book : List Sl → DR := run 4 f_highest_book
def c0_highest_book : D → T → Rs (Option D) :=
  turnC (gNm 5) (sTB (sOp2 (gEq true) (sRd 5) (sRd 3))) (frz (sVar 5)) [5]
def b0_highest_book : D → T → SR :=
  sBody (gNm 3) (sSeq (sSet 4 (sLcB (sItems (frz (sCB (g1 gSorted) (sBCons (sRd 0) (sBNil))))) c0_highest_book [5])) (sDrop (sMeth 2 mAppend (sCons (frz (sTup (sCons (frz (sVar 3)) (sCons (frz (sCall den_past_all (sBCons (toB (frz (sVar 4))) (sBCons (toB (frz (sCall den_told_for (sBCons (toB (frz (sVar 1))) (sBCons (toB (frz (sVar 3))) (sBCons (toB (frz (sC (.bl false)))) (sBNil))))))) (sBNil))))) (sNil))))) (sNil)))))
theorem nE_highest_book : f_highest_book = (sSeq (sDrop (sCall den_check_fit (sBCons (toB (frz (sVar 0))) (sBCons (toB (frz (sVar 1))) (sBNil))))) (sSeq (sSet 2 (sLst (sNil))) (sSeq (sForB (sItems (frz (sCB (g1 gSorted) (sBCons (sRd 0) (sBNil))))) b0_highest_book) (sRet (sCB (g1 gTuple) (sBCons (sRd 2) (sBNil))))))) := rfl
theorem ok_highest_book (B : Blt mg) (D_highest_book : DefOk K mg "highest_book" (top 15) ["names", "places"]) (C_check_fit : Callee P w K mg base px "check_fit" (defArgs (top 12)) ["names", "places"] 16 den_check_fit) (C_past_all : Callee P w K mg base px "past_all" (defArgs (top 14)) ["names", "bars"] 3 den_past_all) (C_told_for : Callee P w K mg base px "told_for" (defArgs (top 9)) ["places", "unit", "came"] 13 den_told_for) : Callee P w K mg base px "highest_book" (defArgs (top 15)) ["names", "places"] 17 den_highest_book := by
  have scN := sc_highest_book
  refine callee (k := 16) (m := 4) (g := f_highest_book) D_highest_book sc_highest_book rfl fun f cdv A outer s H E hr tk po => ?_
  have hu64 := hr.units
  have hu65 : (A.deeper (envOfC "highest_book" (defScope (top 15)) s.heap.objs.size f cdv)).units + 65 < cLine := by have := hr.un; omega
  have hu1 : (A.deeper (envOfC "highest_book" (defScope (top 15)) s.heap.objs.size f cdv)).units + 1 < cLine := by have := hr.un; omega
  exact jss_cons (js_expr (jx_own C_check_fit (hr.mono (by decide)) tk rfl (jab_cons (JE.b (JX.frz (jx_var (pv 0)))) (jab_cons (JE.b (JX.frz (jx_var (pv 1)))) (jab_nil) rfl) rfl) (blS (blS bl0)) (by decide) rfl rfl) rfl)
      (jss_cons (js_asg (ps_set (i := 2) scN.nd rfl (by first | exact Or.inl rfl | exact Or.inr rfl) (jx_lst (ja_nil)) (by first | rfl | exact sw_false_name | decide)) (fun _ _ _ h => h))
      (jss_cons (js_for (gs := [3]) po rfl (ji_any (JX.frz (jx_callB (cr_sortedU hu64) rfl B.sorted boot_sorted (jab_cons (jb_rd (pv 0)) (jab_nil) rfl) (by decide) (by decide) rfl rfl))) (jg_name (pg_name (i := 3) scN.nd rfl (by first | exact Or.inl rfl | exact Or.inr rfl)) (by decide)) (jss_cons (js_setLc (i := 4) (own := [("name", 5)]) rfl scN.nd rfl rfl (sw_true rfl rfl rfl (by decide +kernel)) (ji_any (JX.frz (jx_callB (cr_sortedU hu64) rfl B.sorted boot_sorted (jab_cons (jb_rd (pv 0)) (jab_nil) rfl) (by decide) (by decide) rfl rfl))) (blkOk_by (own := [("name", 5)]) (N := N_highest_book) (by kernel_rfl)) (fun _ _ _ _ _ => jg_name (pg_name (i := 5) scN.nd rfl (by first | exact Or.inl rfl | exact Or.inr rfl)) (by decide)) (fun _ _ _ _ _ => jts_one (jt_cmp (op_neU hu64) (jb_rd (pv 5)) (jb_rd (pv 3)) rfl)) (fun _ _ _ _ _ => JX.frz (jx_var (pv 5))) (fun _ => rfl))
      (jss_one (js_expr (jx_meth PySem.F.slot_list_append PySem.F.type_list_append mo_append (pv 2) (ja_cons (JX.frz (jx_tup (ja_cons (JX.frz (jx_var (pv 3))) (ja_cons (JX.frz (jx_own C_past_all (hr.mono (by decide)) tk rfl (jab_cons (JE.b (JX.frz (jx_var (pv 4)))) (jab_cons (JE.b (JX.frz (jx_own C_told_for (hr.mono (by decide)) tk rfl (jab_cons (JE.b (JX.frz (jx_var (pv 1)))) (jab_cons (JE.b (JX.frz (jx_var (pv 3)))) (jab_cons (JE.b (JX.frz (jx_bl))) (jab_nil) rfl) rfl) rfl) (blS (blS (blS bl0))) (by decide) rfl rfl))) (jab_nil) rfl) rfl) (blS (blS bl0)) (by decide) rfl rfl)) (ja_nil) rfl) rfl))) (ja_nil) rfl) rfl rfl rfl rfl rfl) rfl))) (fun _ => rfl))
      (jss_one (js_ret (jx_callTy (cr_tupleU rfl) rfl B.tuple boot_tuple (jab_cons (jb_rd (pv 2)) (jab_nil) rfl) (by decide) (by decide) rfl rfl)))))
/-! _law_box -/
def N__law_box : List Str := ["_law_script", "_law_k", "_law_cell"]
theorem sc__law_box : FnScope N__law_box ["_law_script", "_law_k"] (defScope (top 17)) := ⟨rfl, rfl, rfl, by decide +kernel, rfl, by decide +kernel, by decide +kernel⟩
def f__law_box : T → SR :=
  sSeq (sSet 2 (sIte (sTB (sOp2 (gCmp .lt) (sRd 1) (toB (frz (sCB (g1 gLen) (sBCons (sRd 0) (sBNil))))))) (sOp2 gIx (sRd 0) (sRd 1)) (sC (.int 0)))) (sRet (sLst (sCons (frz (sOp2 gMul (toB (frz (sCB (g1 gAbs) (sBCons (sRd 2) (sBNil))))) (toB (frz (sCB (g1 gIntC) (sBCons (toB (frz (sOp2 (gCmp .ge) (toB (frz (sCB (g1 gAbs) (sBCons (sRd 2) (sBNil))))) (toB (frz (sOp2 (gInt cPow fun i j => i ^ j.toNat) (toB (frz (sC (.int 10)))) (toB (frz (sC (.int 18)))))))))) (sBNil))))))) (sCons (frz (sOp2 gAdd (toB (frz (sOp2 gAdd (toB (frz (sOp2 (gInt (fun _ j => decide (0 < j)) fun i j => i % j) (toB (frz (sCB (g1 gIntC) (sBCons (sRd 2) (sBNil))))) (toB (frz (sC (.int 2305843009213693951))))))) (toB (frz (sOp2 gMul (toB (frz (sC (.int 39373)))) (sRd 1))))))) (toB (frz (sC (.int 1052175)))))) (sCons (frz (sC (.int 0))) (sNil))))))
def den__law_box : List Sl → DR := run 1 f__law_box
theorem ok__law_box (B : Blt mg) (D__law_box : DefOk K mg "_law_box" (top 17) ["_law_script", "_law_k"])  : Callee P w K mg base px "_law_box" (defArgs (top 17)) ["_law_script", "_law_k"] 1 den__law_box := by
  have scN := sc__law_box
  refine callee (k := 0) (m := 1) (g := f__law_box) D__law_box sc__law_box rfl fun f cdv A outer s H E hr tk po => ?_
  have hu64 := hr.units
  have hu65 : (A.deeper (envOfC "_law_box" (defScope (top 17)) s.heap.objs.size f cdv)).units + 65 < cLine := by have := hr.un; omega
  have hu1 : (A.deeper (envOfC "_law_box" (defScope (top 17)) s.heap.objs.size f cdv)).units + 1 < cLine := by have := hr.un; omega
  exact jss_cons (js_asg (ps_set (i := 2) scN.nd rfl (by first | exact Or.inl rfl | exact Or.inr rfl) (jx_ife (jt_cmp (op_cmpU .lt hu64) (jb_rd (pv 1)) (JE.b (JX.frz (jx_callB cr_lenU rfl B.len boot_len (jab_cons (jb_rd (pv 0)) (jab_nil) rfl) (by decide) (by decide) rfl rfl))) rfl) (jx_ix (ix_U hu1) (jb_rd (pv 0)) (jb_rd (pv 1)) (fun _ _ => rfl)) (jx_int)) (by first | rfl | exact sw_false_name | decide)) (fun _ _ _ h => h))
      (jss_one (js_ret (jx_lst (ja_cons (JX.frz (jx_bin op_mulU (JE.b (JX.frz (jx_callB cr_absU rfl B.abs boot_abs (jab_cons (jb_rd (pv 2)) (jab_nil) rfl) (by decide) (by decide) rfl rfl))) (JE.b (JX.frz (jx_callTy cr_intU rfl B.int boot_int (jab_cons (JE.b (JX.frz (jx_cmp (op_cmpU .ge hu64) (JE.b (JX.frz (jx_callB cr_absU rfl B.abs boot_abs (jab_cons (jb_rd (pv 2)) (jab_nil) rfl) (by decide) (by decide) rfl rfl))) (JE.b (JX.frz (jx_bin op_powD (JE.b (JX.frz (jx_int))) (JE.b (JX.frz (jx_int)))))) rfl))) (jab_nil) rfl) (by decide) (by decide) rfl rfl))))) (ja_cons (JX.frz (jx_bin op_addU (JE.b (JX.frz (jx_bin op_addU (JE.b (JX.frz (jx_bin op_modD (JE.b (JX.frz (jx_callTy cr_intU rfl B.int boot_int (jab_cons (jb_rd (pv 2)) (jab_nil) rfl) (by decide) (by decide) rfl rfl))) (JE.b (JX.frz (jx_int)))))) (JE.b (JX.frz (jx_bin op_mulU (JE.b (JX.frz (jx_int))) (jb_rd (pv 1)))))))) (JE.b (JX.frz (jx_int))))) (ja_cons (JX.frz (jx_int)) (ja_nil) rfl) rfl) rfl))))
/-! _law_take -/
def N__law_take : List Str := ["_law_urn", "_law_low_so", "_law_drawn", "_law_once", "_law_far", "_law_twice"]
theorem sc__law_take : FnScope N__law_take ["_law_urn", "_law_low_so"] (defScope (top 18)) := ⟨rfl, rfl, rfl, by decide +kernel, rfl, by decide +kernel, by decide +kernel⟩
def f__law_take : T → SR :=
  sSeq (sIfS (sTB (sOp2 (gCmp .gt) (toB (frz (sOp2 gIx (sRd 0) (toB (frz (sC (.int 0))))))) (toB (frz (sC (.int 0)))))) (sSeq (sSet 2 (sOp2 (gInt (fun _ j => decide (0 < j)) fun i j => i % j) (toB (frz (sCB (g1 gIntC) (sBCons (toB (frz (sOp2 gIx (sRd 0) (toB (frz (sC (.int 0))))))) (sBNil))))) (sRd 1))) (sSeq (sStore 0 (frz (sOp2 (gInt cDiv fun i j => i / j) (toB (frz (sOp2 gIx (sRd 0) (toB (frz (sC (.int 0))))))) (sRd 1))) (frz (sC (.int 0)))) (sRetV 2))) (sNext)) (sSeq (sStore 0 (frz (sOp2 gAdd (toB (frz (sOp2 gIx (sRd 0) (toB (frz (sC (.int 2))))))) (toB (frz (sC (.int 1)))))) (frz (sC (.int 2)))) (sSeq (sSet 3 (sOp2 (gInt (fun _ j => decide (0 < j)) fun i j => i % j) (toB (frz (sCB (g1 gIntC) (sBCons (toB (frz (sOp2 gMul (toB (frz (sOp2 gAdd (toB (frz (sOp2 gIx (sRd 0) (toB (frz (sC (.int 1))))))) (toB (frz (sOp2 gMul (toB (frz (sC (.int 48271)))) (toB (frz (sOp2 gIx (sRd 0) (toB (frz (sC (.int 2))))))))))))) (toB (frz (sOp2 gAdd (toB (frz (sC (.int 39373)))) (toB (frz (sOp2 gIx (sRd 0) (toB (frz (sC (.int 2))))))))))))) (sBNil))))) (toB (frz (sC (.int 2147483647)))))) (sSeq (sSet 4 (sOp2 gAdd (toB (frz (sOp2 (gInt (fun _ j => decide (0 < j)) fun i j => i % j) (toB (frz (sCB (g1 gIntC) (sBCons (sRd 3) (sBNil))))) (toB (frz (sC (.int 40009))))))) (toB (frz (sC (.int 7)))))) (sSeq (sSet 5 (sOp2 (gInt (fun _ j => decide (0 < j)) fun i j => i % j) (toB (frz (sCB (g1 gIntC) (sBCons (toB (frz (sOp2 gMul (toB (frz (sOp2 gAdd (toB (frz (sOp2 gAdd (sRd 3) (toB (frz (sOp2 gIx (sRd 0) (toB (frz (sC (.int 2)))))))))) (toB (frz (sOp2 (gInt cDiv fun i j => i / j) (toB (frz (sOp2 gIx (sRd 0) (toB (frz (sC (.int 1))))))) (toB (frz (sC (.int 1000003)))))))))) (sRd 4)))) (sBNil))))) (toB (frz (sC (.int 2147483629)))))) (sRet (sOp2 (gInt (fun _ j => decide (0 < j)) fun i j => i % j) (toB (frz (sCB (g1 gIntC) (sBCons (toB (frz (sOp2 (gInt cDiv fun i j => i / j) (toB (frz (sOp2 (gInt (fun _ j => decide (0 < j)) fun i j => i % j) (toB (frz (sCB (g1 gIntC) (sBCons (toB (frz (sOp2 gAdd (toB (frz (sOp2 gMul (sRd 5) (toB (frz (sC (.int 48271))))))) (sRd 3)))) (sBNil))))) (toB (frz (sC (.int 2147483587))))))) (toB (frz (sC (.int 64))))))) (sBNil))))) (sRd 1)))))))
def den__law_take : List Sl → DR := run 4 f__law_take
theorem ok__law_take (B : Blt mg) (D__law_take : DefOk K mg "_law_take" (top 18) ["_law_urn", "_law_low_so"])  : Callee P w K mg base px "_law_take" (defArgs (top 18)) ["_law_urn", "_law_low_so"] 1 den__law_take := by
  have scN := sc__law_take
  refine callee (k := 0) (m := 4) (g := f__law_take) D__law_take sc__law_take rfl fun f cdv A outer s H E hr tk po => ?_
  have hu64 := hr.units
  have hu65 : (A.deeper (envOfC "_law_take" (defScope (top 18)) s.heap.objs.size f cdv)).units + 65 < cLine := by have := hr.un; omega
  have hu1 : (A.deeper (envOfC "_law_take" (defScope (top 18)) s.heap.objs.size f cdv)).units + 1 < cLine := by have := hr.un; omega
  exact jss_cons (js_if (jt_cmp (op_cmpU .gt hu64) (JE.b (JX.frz (jx_ix (ix_U hu1) (jb_rd (pv 0)) (JE.b (JX.frz (jx_int))) (fun _ _ => rfl)))) (JE.b (JX.frz (jx_int))) rfl) (jss_cons (js_asg (ps_set (i := 2) scN.nd rfl (by first | exact Or.inl rfl | exact Or.inr rfl) (jx_bin op_modD (JE.b (JX.frz (jx_callTy cr_intU rfl B.int boot_int (jab_cons (JE.b (JX.frz (jx_ix (ix_U hu1) (jb_rd (pv 0)) (JE.b (JX.frz (jx_int))) (fun _ _ => rfl)))) (jab_nil) rfl) (by decide) (by decide) rfl rfl))) (jb_rd (pv 1))) (by first | rfl | exact sw_false_name | decide)) (fun _ _ _ h => h))
      (jss_cons (js_store (pv 0) (JX.frz (jx_int)) (JX.frz (jx_bin op_divD (JE.b (JX.frz (jx_ix (ix_U hu1) (jb_rd (pv 0)) (JE.b (JX.frz (jx_int))) (fun _ _ => rfl)))) (jb_rd (pv 1)))) (fun _ => rfl) rfl rfl rfl)
      (jss_one (js_retV (pv 2))))) (jss_nil))
      (jss_cons (js_store (pv 0) (JX.frz (jx_int)) (JX.frz (jx_bin op_addU (JE.b (JX.frz (jx_ix (ix_U hu1) (jb_rd (pv 0)) (JE.b (JX.frz (jx_int))) (fun _ _ => rfl)))) (JE.b (JX.frz (jx_int))))) (fun _ => rfl) rfl rfl rfl)
      (jss_cons (js_asg (ps_set (i := 3) scN.nd rfl (by first | exact Or.inl rfl | exact Or.inr rfl) (jx_bin op_modD (JE.b (JX.frz (jx_callTy cr_intU rfl B.int boot_int (jab_cons (JE.b (JX.frz (jx_bin op_mulU (JE.b (JX.frz (jx_bin op_addU (JE.b (JX.frz (jx_ix (ix_U hu1) (jb_rd (pv 0)) (JE.b (JX.frz (jx_int))) (fun _ _ => rfl)))) (JE.b (JX.frz (jx_bin op_mulU (JE.b (JX.frz (jx_int))) (JE.b (JX.frz (jx_ix (ix_U hu1) (jb_rd (pv 0)) (JE.b (JX.frz (jx_int))) (fun _ _ => rfl)))))))))) (JE.b (JX.frz (jx_bin op_addU (JE.b (JX.frz (jx_int))) (JE.b (JX.frz (jx_ix (ix_U hu1) (jb_rd (pv 0)) (JE.b (JX.frz (jx_int))) (fun _ _ => rfl)))))))))) (jab_nil) rfl) (by decide) (by decide) rfl rfl))) (JE.b (JX.frz (jx_int)))) (by first | rfl | exact sw_false_name | decide)) (fun _ _ _ h => h))
      (jss_cons (js_asg (ps_set (i := 4) scN.nd rfl (by first | exact Or.inl rfl | exact Or.inr rfl) (jx_bin op_addU (JE.b (JX.frz (jx_bin op_modD (JE.b (JX.frz (jx_callTy cr_intU rfl B.int boot_int (jab_cons (jb_rd (pv 3)) (jab_nil) rfl) (by decide) (by decide) rfl rfl))) (JE.b (JX.frz (jx_int)))))) (JE.b (JX.frz (jx_int)))) (by first | rfl | exact sw_false_name | decide)) (fun _ _ _ h => h))
      (jss_cons (js_asg (ps_set (i := 5) scN.nd rfl (by first | exact Or.inl rfl | exact Or.inr rfl) (jx_bin op_modD (JE.b (JX.frz (jx_callTy cr_intU rfl B.int boot_int (jab_cons (JE.b (JX.frz (jx_bin op_mulU (JE.b (JX.frz (jx_bin op_addU (JE.b (JX.frz (jx_bin op_addU (jb_rd (pv 3)) (JE.b (JX.frz (jx_ix (ix_U hu1) (jb_rd (pv 0)) (JE.b (JX.frz (jx_int))) (fun _ _ => rfl))))))) (JE.b (JX.frz (jx_bin op_divD (JE.b (JX.frz (jx_ix (ix_U hu1) (jb_rd (pv 0)) (JE.b (JX.frz (jx_int))) (fun _ _ => rfl)))) (JE.b (JX.frz (jx_int))))))))) (jb_rd (pv 4))))) (jab_nil) rfl) (by decide) (by decide) rfl rfl))) (JE.b (JX.frz (jx_int)))) (by first | rfl | exact sw_false_name | decide)) (fun _ _ _ h => h))
      (jss_one (js_ret (jx_bin op_modD (JE.b (JX.frz (jx_callTy cr_intU rfl B.int boot_int (jab_cons (JE.b (JX.frz (jx_bin op_divD (JE.b (JX.frz (jx_bin op_modD (JE.b (JX.frz (jx_callTy cr_intU rfl B.int boot_int (jab_cons (JE.b (JX.frz (jx_bin op_addU (JE.b (JX.frz (jx_bin op_mulU (jb_rd (pv 5)) (JE.b (JX.frz (jx_int)))))) (jb_rd (pv 3))))) (jab_nil) rfl) (by decide) (by decide) rfl rfl))) (JE.b (JX.frz (jx_int)))))) (JE.b (JX.frz (jx_int)))))) (jab_nil) rfl) (by decide) (by decide) rfl rfl))) (jb_rd (pv 1)))))))))
/-! _law_cells -/
def N__law_cells : List Str := ["_law_script", "_law_top", "_law_cells_here", "_law_k", "_law_cell", "_law_at_so"]
theorem sc__law_cells : FnScope N__law_cells ["_law_script", "_law_top"] (defScope (top 19)) := ⟨rfl, rfl, rfl, by decide +kernel, rfl, by decide +kernel, by decide +kernel⟩
def f__law_cells : T → SR :=
  sSeq (sSet 2 (sOrV (sCB (g1 gList) (sBCons (toB (frz (sSl (sRd 0) (sNoP) (sSmP (frz (sVar 1)))))) (sBNil))) (sLst (sCons (frz (sC (.int 0))) (sNil))))) (sSeq (sFor (sEnum (sCons (frz (sSl (sRd 0) (sSmP (frz (sVar 1))) (sSmP (frz (sC (.int 63)))))) (sNil))) (gTp 2 (gN1 (gNm 3) (gN1 (gNm 4) (gN0)))) (sSeq (sSet 5 (sOp2 (gInt (fun _ j => decide (0 < j)) fun i j => i % j) (toB (frz (sCB (g1 gIntC) (sBCons (sRd 3) (sBNil))))) (sRd 1))) (sStore 2 (frz (sOp2 gAdd (toB (frz (sOp2 gIx (sRd 2) (sRd 5)))) (toB (frz (sOp2 gMul (sRd 4) (toB (frz (sOp2 gAdd (sRd 3) (toB (frz (sC (.int 2)))))))))))) (frz (sVar 5))))) (sRetV 2))
def den__law_cells : List Sl → DR := run 4 f__law_cells
def b0__law_cells : D → T → SR :=
  sBody (gTp 2 (gN1 (gNm 3) (gN1 (gNm 4) (gN0)))) (sSeq (sSet 5 (sOp2 (gInt (fun _ j => decide (0 < j)) fun i j => i % j) (toB (frz (sCB (g1 gIntC) (sBCons (sRd 3) (sBNil))))) (sRd 1))) (sStore 2 (frz (sOp2 gAdd (toB (frz (sOp2 gIx (sRd 2) (sRd 5)))) (toB (frz (sOp2 gMul (sRd 4) (toB (frz (sOp2 gAdd (sRd 3) (toB (frz (sC (.int 2)))))))))))) (frz (sVar 5))))
theorem nE__law_cells : f__law_cells = (sSeq (sSet 2 (sOrV (sCB (g1 gList) (sBCons (toB (frz (sSl (sRd 0) (sNoP) (sSmP (frz (sVar 1)))))) (sBNil))) (sLst (sCons (frz (sC (.int 0))) (sNil))))) (sSeq (sForB (sEnum (sCons (frz (sSl (sRd 0) (sSmP (frz (sVar 1))) (sSmP (frz (sC (.int 63)))))) (sNil))) b0__law_cells) (sRetV 2))) := rfl
theorem ok__law_cells (B : Blt mg) (D__law_cells : DefOk K mg "_law_cells" (top 19) ["_law_script", "_law_top"])  : Callee P w K mg base px "_law_cells" (defArgs (top 19)) ["_law_script", "_law_top"] 1 den__law_cells := by
  have scN := sc__law_cells
  refine callee (k := 0) (m := 4) (g := f__law_cells) D__law_cells sc__law_cells rfl fun f cdv A outer s H E hr tk po => ?_
  have hu64 := hr.units
  have hu65 : (A.deeper (envOfC "_law_cells" (defScope (top 19)) s.heap.objs.size f cdv)).units + 65 < cLine := by have := hr.un; omega
  have hu1 : (A.deeper (envOfC "_law_cells" (defScope (top 19)) s.heap.objs.size f cdv)).units + 1 < cLine := by have := hr.un; omega
  exact jss_cons (js_asg (ps_set (i := 2) scN.nd rfl (by first | exact Or.inl rfl | exact Or.inr rfl) (jx_or (jx_callTy cr_listU rfl B.list boot_list (jab_cons (JE.b (JX.frz (jx_sl (jb_rd (pv 0)) (jo_none) (jo_some (JX.frz (jx_var (pv 1))))))) (jab_nil) rfl) (by decide) (by decide) rfl rfl) (jx_one (jx_lst (ja_cons (JX.frz (jx_int)) (ja_nil) rfl)))) (by first | rfl | exact sw_false_name | decide)) (fun _ _ _ h => h))
      (jss_cons (js_for (gs := [3, 4]) po rfl (ji_enum rfl B.enumerate (ja_cons (JX.frz (jx_sl (jb_rd (pv 0)) (jo_some (JX.frz (jx_var (pv 1)))) (jo_some (JX.frz (jx_int))))) (ja_nil) rfl) rfl) (jg_tup rfl (jgs_cons (jg_name (pg_name (i := 3) scN.nd rfl (by first | exact Or.inl rfl | exact Or.inr rfl)) (by decide)) (jgs_cons (jg_name (pg_name (i := 4) scN.nd rfl (by first | exact Or.inl rfl | exact Or.inr rfl)) (by decide)) (jgs_nil) rfl) rfl) rfl rfl) (jss_cons (js_asg (ps_set (i := 5) scN.nd rfl (by first | exact Or.inl rfl | exact Or.inr rfl) (jx_bin op_modD (JE.b (JX.frz (jx_callTy cr_intU rfl B.int boot_int (jab_cons (jb_rd (pv 3)) (jab_nil) rfl) (by decide) (by decide) rfl rfl))) (jb_rd (pv 1))) (by first | rfl | exact sw_false_name | decide)) (fun _ _ _ h => h))
      (jss_one (js_store (pv 2) (JX.frz (jx_var (pv 5))) (JX.frz (jx_bin op_addU (JE.b (JX.frz (jx_ix (ix_U hu1) (jb_rd (pv 2)) (jb_rd (pv 5)) (fun _ _ => rfl)))) (JE.b (JX.frz (jx_bin op_mulU (jb_rd (pv 4)) (JE.b (JX.frz (jx_bin op_addU (jb_rd (pv 3)) (JE.b (JX.frz (jx_int))))))))))) (fun _ => rfl) rfl rfl rfl))) (fun _ => rfl))
      (jss_one (js_retV (pv 2))))
/-! _law_of -/
def N__law_of : List Str := ["_law_urn", "_law_some_so"]
theorem sc__law_of : FnScope N__law_of ["_law_urn", "_law_some_so"] (defScope (top 20)) := ⟨rfl, rfl, rfl, by decide +kernel, rfl, by decide +kernel, by decide +kernel⟩
def f__law_of : T → SR :=
  sRet (sOp2 gIx (sRd 1) (toB (frz (sCall den__law_take (sBCons (sRd 0) (sBCons (toB (frz (sCB (g1 gLen) (sBCons (sRd 1) (sBNil))))) (sBNil)))))))
def den__law_of : List Sl → DR := run 0 f__law_of
theorem ok__law_of (B : Blt mg) (D__law_of : DefOk K mg "_law_of" (top 20) ["_law_urn", "_law_some_so"]) (C__law_take : Callee P w K mg base px "_law_take" (defArgs (top 18)) ["_law_urn", "_law_low_so"] 1 den__law_take) : Callee P w K mg base px "_law_of" (defArgs (top 20)) ["_law_urn", "_law_some_so"] 2 den__law_of := by
  have scN := sc__law_of
  refine callee (k := 1) (m := 0) (g := f__law_of) D__law_of sc__law_of rfl fun f cdv A outer s H E hr tk po => ?_
  have hu64 := hr.units
  have hu65 : (A.deeper (envOfC "_law_of" (defScope (top 20)) s.heap.objs.size f cdv)).units + 65 < cLine := by have := hr.un; omega
  have hu1 : (A.deeper (envOfC "_law_of" (defScope (top 20)) s.heap.objs.size f cdv)).units + 1 < cLine := by have := hr.un; omega
  exact jss_one (js_ret (jx_ix (ix_U hu1) (jb_rd (pv 1)) (JE.b (JX.frz (jx_own C__law_take (hr.mono (by decide)) tk rfl (jab_cons (jb_rd (pv 0)) (jab_cons (JE.b (JX.frz (jx_callB cr_lenU rfl B.len boot_len (jab_cons (jb_rd (pv 1)) (jab_nil) rfl) (by decide) (by decide) rfl rfl))) (jab_nil) rfl) rfl) (blS (blS bl0)) (by decide) rfl rfl))) (fun _ _ => rfl)))
/-! _law_same -/
def N__law_same : List Str := ["_law_got", "_law_goal", "_law_mine_so", "_law_own"]
theorem sc__law_same : FnScope N__law_same ["_law_got", "_law_goal"] (defScope (top 21)) := ⟨rfl, rfl, rfl, by decide +kernel, rfl, by decide +kernel, by decide +kernel⟩
def f__law_same (dself : List Sl → DR) : T → SR :=
  sSeq (sIfS (sTru (toB (frz (sIsi ["list", "tuple"] (sRd 1))))) (sSeq (sIfS (sOr (sTB (sOp2 (gEq true) (toB (frz (sIsi ["list"] (sRd 0)))) (toB (frz (sIsi ["list"] (sRd 1)))))) (sTB (sOp2 (gEq true) (toB (frz (sIsi ["tuple"] (sRd 0)))) (toB (frz (sIsi ["tuple"] (sRd 1))))))) (sRet (sC (.bl false))) (sNext)) (sRet (sAndV (sOp2 (gEq false) (toB (frz (sCB (g1 gLen) (sBCons (sRd 0) (sBNil))))) (toB (frz (sCB (g1 gLen) (sBCons (sRd 1) (sBNil)))))) (sCB (g1 gAll) (sBCons (toB (frz (sLc (sZip (sCons (frz (sVar 0)) (sCons (frz (sVar 1)) (sNil)))) (gTp 2 (gN1 (gNm 2) (gN1 (gNm 3) (gN0)))) (fun τ => .ok true τ) (frz (sCall dself (sBCons (toB (frz (sVar 2))) (sBCons (toB (frz (sVar 3))) (sBNil))))) [2, 3]))) (sBNil)))))) (sNext)) (sSeq (sIfS (sOr (sTB (sOp2 (gIs false) (sRd 1) (toB (frz (sC .non))))) (sTru (toB (frz (sIsi ["bool", "str"] (sRd 1)))))) (sRet (sAndV (sOp2 (gEq false) (sRd 0) (sRd 1)) (sAndV (sOp2 (gEq false) (toB (frz (sIsi ["bool"] (sRd 0)))) (toB (frz (sIsi ["bool"] (sRd 1))))) (sOp2 (gEq false) (toB (frz (sOp2 (gIs false) (sRd 0) (toB (frz (sC .non)))))) (toB (frz (sOp2 (gIs false) (sRd 1) (toB (frz (sC .non)))))))))) (sNext)) (sRet (sAndV (sIsi ["int"] (sRd 0)) (sAndV (sNotV (sIsi ["bool"] (sRd 0))) (sOp2 (gEq false) (sRd 0) (sRd 1))))))
def den__law_same : Nat → List Sl → DR
  | 0 => fun _ => .stuck
  | n + 1 => run 2 (f__law_same (den__law_same n))
def c0__law_same (dself : List Sl → DR) : D → T → Rs (Option D) :=
  turnC (gTp 2 (gN1 (gNm 2) (gN1 (gNm 3) (gN0)))) (fun τ => .ok true τ) (frz (sCall dself (sBCons (toB (frz (sVar 2))) (sBCons (toB (frz (sVar 3))) (sBNil))))) [2, 3]
theorem nE__law_same (dself : List Sl → DR) : f__law_same dself = (sSeq (sIfS (sTru (toB (frz (sIsi ["list", "tuple"] (sRd 1))))) (sSeq (sIfS (sOr (sTB (sOp2 (gEq true) (toB (frz (sIsi ["list"] (sRd 0)))) (toB (frz (sIsi ["list"] (sRd 1)))))) (sTB (sOp2 (gEq true) (toB (frz (sIsi ["tuple"] (sRd 0)))) (toB (frz (sIsi ["tuple"] (sRd 1))))))) (sRet (sC (.bl false))) (sNext)) (sRet (sAndV (sOp2 (gEq false) (toB (frz (sCB (g1 gLen) (sBCons (sRd 0) (sBNil))))) (toB (frz (sCB (g1 gLen) (sBCons (sRd 1) (sBNil)))))) (sCB (g1 gAll) (sBCons (toB (frz (sLcB (sZip (sCons (frz (sVar 0)) (sCons (frz (sVar 1)) (sNil)))) (c0__law_same dself) [2, 3]))) (sBNil)))))) (sNext)) (sSeq (sIfS (sOr (sTB (sOp2 (gIs false) (sRd 1) (toB (frz (sC .non))))) (sTru (toB (frz (sIsi ["bool", "str"] (sRd 1)))))) (sRet (sAndV (sOp2 (gEq false) (sRd 0) (sRd 1)) (sAndV (sOp2 (gEq false) (toB (frz (sIsi ["bool"] (sRd 0)))) (toB (frz (sIsi ["bool"] (sRd 1))))) (sOp2 (gEq false) (toB (frz (sOp2 (gIs false) (sRd 0) (toB (frz (sC .non)))))) (toB (frz (sOp2 (gIs false) (sRd 1) (toB (frz (sC .non)))))))))) (sNext)) (sRet (sAndV (sIsi ["int"] (sRd 0)) (sAndV (sNotV (sIsi ["bool"] (sRd 0))) (sOp2 (gEq false) (sRd 0) (sRd 1))))))) := rfl
theorem ok__law_same (B : Blt mg) (D__law_same : DefOk K mg "_law_same" (top 21) ["_law_got", "_law_goal"])  : ∀ n : Nat, Callee P w K mg base px "_law_same" (defArgs (top 21)) ["_law_got", "_law_goal"] (n + 0) (den__law_same n)
  | 0 => callee0 D__law_same
  | n + 1 => by
    have cself := ok__law_same B D__law_same  n
    have e1 : n + 1 + 0 = (n + 0) + 1 := by omega
    rw [e1]
    have scN := sc__law_same
    refine callee (k := n + 0) (m := 2) (g := f__law_same (den__law_same n)) D__law_same sc__law_same rfl fun f cdv A outer s H E hr tk po => ?_
    have hu64 := hr.units
    have hu65 : (A.deeper (envOfC "_law_same" (defScope (top 21)) s.heap.objs.size f cdv)).units + 65 < cLine := by have := hr.un; omega
    have hu1 : (A.deeper (envOfC "_law_same" (defScope (top 21)) s.heap.objs.size f cdv)).units + 1 < cLine := by have := hr.un; omega
    exact jss_cons (js_if (jt_truth (JE.b (JX.frz (jx_isi2 rfl B.isinstance (jb_rd (pv 1)) rfl B.list boot_list (by decide) (by decide) (by decide) rfl B.tuple boot_tuple (by decide) (by decide) (by decide) rfl))) (fun _ => rfl)) (jss_cons (js_if (JW.t (jw_or (jt_cmp (op_neU hu64) (JE.b (JX.frz (jx_isi1 rfl B.isinstance (jb_rd (pv 0)) rfl B.list boot_list (by decide) (by decide) (by decide) rfl))) (JE.b (JX.frz (jx_isi1 rfl B.isinstance (jb_rd (pv 1)) rfl B.list boot_list (by decide) (by decide) (by decide) rfl))) rfl) (jw_or1 (jt_cmp (op_neU hu64) (JE.b (JX.frz (jx_isi1 rfl B.isinstance (jb_rd (pv 0)) rfl B.tuple boot_tuple (by decide) (by decide) (by decide) rfl))) (JE.b (JX.frz (jx_isi1 rfl B.isinstance (jb_rd (pv 1)) rfl B.tuple boot_tuple (by decide) (by decide) (by decide) rfl))) rfl)))) (jss_one (js_ret (jx_bl))) (jss_nil))
      (jss_one (js_ret (jx_and (jx_cmp (op_eqU hu64) (JE.b (JX.frz (jx_callB cr_lenU rfl B.len boot_len (jab_cons (jb_rd (pv 0)) (jab_nil) rfl) (by decide) (by decide) rfl rfl))) (JE.b (JX.frz (jx_callB cr_lenU rfl B.len boot_len (jab_cons (jb_rd (pv 1)) (jab_nil) rfl) (by decide) (by decide) rfl rfl))) rfl) (jx_one (jx_callB (cr_allU rfl) rfl B.all boot_all (jab_cons (JE.b (JX.frz (jx_lc (own := [("_law_mine_so", 2), ("_law_own", 3)]) rfl scN.nd (ji_zip rfl B.zip (ja_cons (JX.frz (jx_var (pv 0))) (ja_cons (JX.frz (jx_var (pv 1))) (ja_nil) rfl) rfl) rfl rfl) (blkOk_by (own := [("_law_mine_so", 2), ("_law_own", 3)]) (N := N__law_same) (by kernel_rfl)) (fun _ _ _ _ _ => jg_tup rfl (jgs_cons (jg_name (pg_name (i := 2) scN.nd rfl (by first | exact Or.inl rfl | exact Or.inr rfl)) (by decide)) (jgs_cons (jg_name (pg_name (i := 3) scN.nd rfl (by first | exact Or.inl rfl | exact Or.inr rfl)) (by decide)) (jgs_nil) rfl) rfl) rfl rfl) (fun _ _ _ _ _ => jts_nil) (fun _ _ _ _ _ => JX.frz (jx_own cself (hr.mono (by omega)) takes0 rfl (jab_cons (JE.b (JX.frz (jx_var (pv 2)))) (jab_cons (JE.b (JX.frz (jx_var (pv 3)))) (jab_nil) rfl) rfl) (blS (blS bl0)) (by decide) rfl rfl)) (fun _ => rfl)))) (jab_nil) rfl) (by decide) (by decide) rfl rfl)))))) (jss_nil))
      (jss_cons (js_if (JW.t (jw_or (jt_cmp op_isU (jb_rd (pv 1)) (JE.b (JX.frz (jx_non))) rfl) (jw_or1 (jt_truth (JE.b (JX.frz (jx_isi2 rfl B.isinstance (jb_rd (pv 1)) rfl B.bool boot_bool (by decide) (by decide) (by decide) rfl B.str boot_str (by decide) (by decide) (by decide) rfl))) (fun _ => rfl))))) (jss_one (js_ret (jx_and (jx_cmp (op_eqU hu64) (jb_rd (pv 0)) (jb_rd (pv 1)) rfl) (jx_and (jx_cmp (op_eqU hu64) (JE.b (JX.frz (jx_isi1 rfl B.isinstance (jb_rd (pv 0)) rfl B.bool boot_bool (by decide) (by decide) (by decide) rfl))) (JE.b (JX.frz (jx_isi1 rfl B.isinstance (jb_rd (pv 1)) rfl B.bool boot_bool (by decide) (by decide) (by decide) rfl))) rfl) (jx_one (jx_cmp (op_eqU hu64) (JE.b (JX.frz (jx_cmp op_isU (jb_rd (pv 0)) (JE.b (JX.frz (jx_non))) rfl))) (JE.b (JX.frz (jx_cmp op_isU (jb_rd (pv 1)) (JE.b (JX.frz (jx_non))) rfl))) rfl)))))) (jss_nil))
      (jss_one (js_ret (jx_and (jx_isi1 rfl B.isinstance (jb_rd (pv 0)) rfl B.int boot_int (by decide) (by decide) (by decide) rfl) (jx_and (jx_not (jx_isi1 rfl B.isinstance (jb_rd (pv 0)) rfl B.bool boot_bool (by decide) (by decide) (by decide) rfl)) (jx_one (jx_cmp (op_eqU hu64) (jb_rd (pv 0)) (jb_rd (pv 1)) rfl)))))))
/-! _law_lists -/
def N__law_lists : List Str := ["_law_matter", "_law_bit"]
theorem sc__law_lists : FnScope N__law_lists ["_law_matter"] (defScope (top 22)) := ⟨rfl, rfl, rfl, by decide +kernel, rfl, by decide +kernel, by decide +kernel⟩
def f__law_lists (dself : List Sl → DR) : T → SR :=
  sRet (sIte (sTru (toB (frz (sIsi ["list", "tuple"] (sRd 0))))) (sLc (sItems (frz (sVar 0))) (gNm 1) (fun τ => .ok true τ) (frz (sCall dself (sBCons (toB (frz (sVar 1))) (sBNil)))) [1]) (sVar 0))
def den__law_lists : Nat → List Sl → DR
  | 0 => fun _ => .stuck
  | n + 1 => run 1 (f__law_lists (den__law_lists n))
def c0__law_lists (dself : List Sl → DR) : D → T → Rs (Option D) :=
  turnC (gNm 1) (fun τ => .ok true τ) (frz (sCall dself (sBCons (toB (frz (sVar 1))) (sBNil)))) [1]
theorem nE__law_lists (dself : List Sl → DR) : f__law_lists dself = (sRet (sIte (sTru (toB (frz (sIsi ["list", "tuple"] (sRd 0))))) (sLcB (sItems (frz (sVar 0))) (c0__law_lists dself) [1]) (sVar 0))) := rfl
theorem ok__law_lists (B : Blt mg) (D__law_lists : DefOk K mg "_law_lists" (top 22) ["_law_matter"])  : ∀ n : Nat, Callee P w K mg base px "_law_lists" (defArgs (top 22)) ["_law_matter"] (n + 0) (den__law_lists n)
  | 0 => callee0 D__law_lists
  | n + 1 => by
    have cself := ok__law_lists B D__law_lists  n
    have e1 : n + 1 + 0 = (n + 0) + 1 := by omega
    rw [e1]
    have scN := sc__law_lists
    refine callee (k := n + 0) (m := 1) (g := f__law_lists (den__law_lists n)) D__law_lists sc__law_lists rfl fun f cdv A outer s H E hr tk po => ?_
    have hu64 := hr.units
    have hu65 : (A.deeper (envOfC "_law_lists" (defScope (top 22)) s.heap.objs.size f cdv)).units + 65 < cLine := by have := hr.un; omega
    have hu1 : (A.deeper (envOfC "_law_lists" (defScope (top 22)) s.heap.objs.size f cdv)).units + 1 < cLine := by have := hr.un; omega
    exact jss_one (js_ret (jx_ife (jt_truth (JE.b (JX.frz (jx_isi2 rfl B.isinstance (jb_rd (pv 0)) rfl B.list boot_list (by decide) (by decide) (by decide) rfl B.tuple boot_tuple (by decide) (by decide) (by decide) rfl))) (fun _ => rfl)) (jx_lc (own := [("_law_bit", 1)]) rfl scN.nd (ji_any (JX.frz (jx_var (pv 0)))) (blkOk_by (own := [("_law_bit", 1)]) (N := N__law_lists) (by kernel_rfl)) (fun _ _ _ _ _ => jg_name (pg_name (i := 1) scN.nd rfl (by first | exact Or.inl rfl | exact Or.inr rfl)) (by decide)) (fun _ _ _ _ _ => jts_nil) (fun _ _ _ _ _ => JX.frz (jx_own cself (hr.mono (by omega)) takes0 rfl (jab_cons (JE.b (JX.frz (jx_var (pv 1)))) (jab_nil) rfl) (blS bl0) (by decide) rfl rfl)) (fun _ => rfl)) (jx_var (pv 0))))
/-! _law_pick -/
def N__law_pick : List Str := ["_law_urn", "_law_pool", "_law_size_so", "_law_rest", "_law_found", "_law_turn"]
theorem sc__law_pick : FnScope N__law_pick ["_law_urn", "_law_pool", "_law_size_so"] (defScope (top 23)) := ⟨rfl, rfl, rfl, by decide +kernel, rfl, by decide +kernel, by decide +kernel⟩
def f__law_pick : T → SR :=
  sSeq (sPar [3, 4] (sXCons (sCB (g1 gList) (sBCons (sRd 1) (sBNil))) (sXCons (sLst (sNil)) (sXNil)))) (sSeq (sFor (sRng1 (sCons (frz (sCB gMin (sBCons (sRd 2) (sBCons (toB (frz (sCB (g1 gLen) (sBCons (sRd 3) (sBNil))))) (sBNil))))) (sNil))) (gNm 5) (sDrop (sMeth 4 mAppend (sCons (frz (sMeth 3 mPopAt (sCons (frz (sCall den__law_take (sBCons (sRd 0) (sBCons (toB (frz (sCB (g1 gLen) (sBCons (sRd 3) (sBNil))))) (sBNil))))) (sNil)))) (sNil))))) (sRetV 4))
def den__law_pick : List Sl → DR := run 3 f__law_pick
def b0__law_pick : D → T → SR :=
  sBody (gNm 5) (sDrop (sMeth 4 mAppend (sCons (frz (sMeth 3 mPopAt (sCons (frz (sCall den__law_take (sBCons (sRd 0) (sBCons (toB (frz (sCB (g1 gLen) (sBCons (sRd 3) (sBNil))))) (sBNil))))) (sNil)))) (sNil))))
theorem nE__law_pick : f__law_pick = (sSeq (sPar [3, 4] (sXCons (sCB (g1 gList) (sBCons (sRd 1) (sBNil))) (sXCons (sLst (sNil)) (sXNil)))) (sSeq (sForB (sRng1 (sCons (frz (sCB gMin (sBCons (sRd 2) (sBCons (toB (frz (sCB (g1 gLen) (sBCons (sRd 3) (sBNil))))) (sBNil))))) (sNil))) b0__law_pick) (sRetV 4))) := rfl
theorem ok__law_pick (B : Blt mg) (D__law_pick : DefOk K mg "_law_pick" (top 23) ["_law_urn", "_law_pool", "_law_size_so"]) (C__law_take : Callee P w K mg base px "_law_take" (defArgs (top 18)) ["_law_urn", "_law_low_so"] 1 den__law_take) : Callee P w K mg base px "_law_pick" (defArgs (top 23)) ["_law_urn", "_law_pool", "_law_size_so"] 2 den__law_pick := by
  have scN := sc__law_pick
  refine callee (k := 1) (m := 3) (g := f__law_pick) D__law_pick sc__law_pick rfl fun f cdv A outer s H E hr tk po => ?_
  have hu64 := hr.units
  have hu65 : (A.deeper (envOfC "_law_pick" (defScope (top 23)) s.heap.objs.size f cdv)).units + 65 < cLine := by have := hr.un; omega
  have hu1 : (A.deeper (envOfC "_law_pick" (defScope (top 23)) s.heap.objs.size f cdv)).units + 1 < cLine := by have := hr.un; omega
  exact jss_cons (js_par (is := [3, 4]) (xs := ["_law_rest", "_law_found"]) rfl scN.nd rfl (by kernel_rfl) (by decide) (jax_cons (jx_callTy cr_listU rfl B.list boot_list (jab_cons (jb_rd (pv 1)) (jab_nil) rfl) (by decide) (by decide) rfl rfl) (jax_cons (jx_lst (ja_nil)) (jax_nil) rfl) rfl) rfl rfl)
      (jss_cons (js_for (gs := [5]) po rfl (ji_range1 rfl B.range (ja_cons (JX.frz (jx_callB (cr_minU rfl) rfl B.min boot_min (jab_cons (jb_rd (pv 2)) (jab_cons (JE.b (JX.frz (jx_callB cr_lenU rfl B.len boot_len (jab_cons (jb_rd (pv 3)) (jab_nil) rfl) (by decide) (by decide) rfl rfl))) (jab_nil) rfl) rfl) (by decide) (by decide) rfl rfl)) (ja_nil) rfl) rfl) (jg_name (pg_name (i := 5) scN.nd rfl (by first | exact Or.inl rfl | exact Or.inr rfl)) (by decide)) (jss_one (js_expr (jx_meth PySem.F.slot_list_append PySem.F.type_list_append mo_append (pv 4) (ja_cons (JX.frz (jx_meth PySem.F.slot_list_pop PySem.F.type_list_pop mo_popAt (pv 3) (ja_cons (JX.frz (jx_own C__law_take (hr.mono (by decide)) tk rfl (jab_cons (jb_rd (pv 0)) (jab_cons (JE.b (JX.frz (jx_callB cr_lenU rfl B.len boot_len (jab_cons (jb_rd (pv 3)) (jab_nil) rfl) (by decide) (by decide) rfl rfl))) (jab_nil) rfl) rfl) (blS (blS bl0)) (by decide) rfl rfl)) (ja_nil) rfl) rfl rfl rfl rfl rfl)) (ja_nil) rfl) rfl rfl rfl rfl rfl) rfl)) (fun _ => rfl))
      (jss_one (js_retV (pv 4))))
/-! _law_tags -/
def N__law_tags : List Str := ["_law_urn", "_law_size_so"]
theorem sc__law_tags : FnScope N__law_tags ["_law_urn", "_law_size_so"] (defScope (top 24)) := ⟨rfl, rfl, rfl, by decide +kernel, rfl, by decide +kernel, by decide +kernel⟩
def f__law_tags : T → SR :=
  sRet (sCB (g1 gTuple) (sBCons (toB (frz (sCB (g1 gSorted) (sBCons (toB (frz (sCall den__law_pick (sBCons (sRd 0) (sBCons (toB (frz (sLst (sCons (frz (sC (.str [97]))) (sCons (frz (sC (.str [98]))) (sCons (frz (sC (.str [99]))) (sCons (frz (sC (.str [100]))) (sCons (frz (sC (.str [101]))) (sCons (frz (sC (.str [102]))) (sCons (frz (sC (.str [97, 98]))) (sCons (frz (sC (.str [98, 97]))) (sCons (frz (sC (.str [111, 114, 98]))) (sCons (frz (sC (.str [122]))) (sCons (frz (sC (.str [97, 98, 99, 100, 101, 102, 103, 104]))) (sNil))))))))))))))) (sBCons (toB (frz (sVar 1))) (sBNil))))))) (sBNil))))) (sBNil)))
def den__law_tags : List Sl → DR := run 0 f__law_tags
theorem ok__law_tags (B : Blt mg) (D__law_tags : DefOk K mg "_law_tags" (top 24) ["_law_urn", "_law_size_so"]) (C__law_pick : Callee P w K mg base px "_law_pick" (defArgs (top 23)) ["_law_urn", "_law_pool", "_law_size_so"] 2 den__law_pick) : Callee P w K mg base px "_law_tags" (defArgs (top 24)) ["_law_urn", "_law_size_so"] 3 den__law_tags := by
  have scN := sc__law_tags
  refine callee (k := 2) (m := 0) (g := f__law_tags) D__law_tags sc__law_tags rfl fun f cdv A outer s H E hr tk po => ?_
  have hu64 := hr.units
  have hu65 : (A.deeper (envOfC "_law_tags" (defScope (top 24)) s.heap.objs.size f cdv)).units + 65 < cLine := by have := hr.un; omega
  have hu1 : (A.deeper (envOfC "_law_tags" (defScope (top 24)) s.heap.objs.size f cdv)).units + 1 < cLine := by have := hr.un; omega
  exact jss_one (js_ret (jx_callTy (cr_tupleU rfl) rfl B.tuple boot_tuple (jab_cons (JE.b (JX.frz (jx_callB (cr_sortedU hu64) rfl B.sorted boot_sorted (jab_cons (JE.b (JX.frz (jx_own C__law_pick (hr.mono (by decide)) tk rfl (jab_cons (jb_rd (pv 0)) (jab_cons (JE.b (JX.frz (jx_lst (ja_cons (JX.frz (jx_strE (by decide +kernel))) (ja_cons (JX.frz (jx_strE (by decide +kernel))) (ja_cons (JX.frz (jx_strE (by decide +kernel))) (ja_cons (JX.frz (jx_strE (by decide +kernel))) (ja_cons (JX.frz (jx_strE (by decide +kernel))) (ja_cons (JX.frz (jx_strE (by decide +kernel))) (ja_cons (JX.frz (jx_strE (by decide +kernel))) (ja_cons (JX.frz (jx_strE (by decide +kernel))) (ja_cons (JX.frz (jx_strE (by decide +kernel))) (ja_cons (JX.frz (jx_strE (by decide +kernel))) (ja_cons (JX.frz (jx_strE (by decide +kernel))) (ja_nil) rfl) rfl) rfl) rfl) rfl) rfl) rfl) rfl) rfl) rfl) rfl)))) (jab_cons (JE.b (JX.frz (jx_var (pv 1)))) (jab_nil) rfl) rfl) rfl) (blS (blS (blS bl0))) (by decide) rfl rfl))) (jab_nil) rfl) (by decide) (by decide) rfl rfl))) (jab_nil) rfl) (by decide) (by decide) rfl rfl))
/-! _law_book -/
def N__law_book : List Str := ["_law_urn", "_law_tags_here", "_law_found", "_law_tag", "_law_lots", "_law_lap"]
theorem sc__law_book : FnScope N__law_book ["_law_urn", "_law_tags_here"] (defScope (top 25)) := ⟨rfl, rfl, rfl, by decide +kernel, rfl, by decide +kernel, by decide +kernel⟩
def f__law_book : T → SR :=
  sSeq (sSet 2 (sLst (sNil))) (sSeq (sFor (sItems (frz (sVar 1))) (gNm 3) (sSeq (sSet 4 (sLc (sRng1 (sCons (frz (sCall den__law_take (sBCons (sRd 0) (sBCons (toB (frz (sC (.int 4)))) (sBNil))))) (sNil))) (gNm 5) (fun τ => .ok true τ) (frz (sCB (g1 gTuple) (sBCons (toB (frz (sCB (g1 gSorted) (sBCons (toB (frz (sCall den__law_pick (sBCons (sRd 0) (sBCons (toB (frz (sVar 1))) (sBCons (toB (frz (sOp2 gAdd (toB (frz (sC (.int 1)))) (toB (frz (sCall den__law_take (sBCons (sRd 0) (sBCons (toB (frz (sC (.int 3)))) (sBNil))))))))) (sBNil))))))) (sBNil))))) (sBNil)))) [5])) (sSeq (sSet 4 (sOp2 gAdd (sRd 4) (toB (frz (sOp2 gMul (toB (frz (sLst (sCons (frz (sTup (sNil))) (sNil))))) (toB (frz (sCB (g1 gIntC) (sBCons (toB (frz (sOp2 (gEq false) (toB (frz (sCall den__law_take (sBCons (sRd 0) (sBCons (toB (frz (sC (.int 3)))) (sBNil)))))) (toB (frz (sC (.int 0))))))) (sBNil)))))))))) (sDrop (sMeth 2 mAppend (sCons (frz (sTup (sCons (frz (sVar 3)) (sCons (frz (sCB (g1 gTuple) (sBCons (toB (frz (sCB (g1 gSS) (sBCons (sRd 4) (sBNil))))) (sBNil)))) (sNil))))) (sNil))))))) (sRet (sCB (g1 gTupleP) (sBCons (sRd 2) (sBNil)))))
def den__law_book : List Sl → DR := run 4 f__law_book
def c0__law_book : D → T → Rs (Option D) :=
  turnC (gNm 5) (fun τ => .ok true τ) (frz (sCB (g1 gTuple) (sBCons (toB (frz (sCB (g1 gSorted) (sBCons (toB (frz (sCall den__law_pick (sBCons (sRd 0) (sBCons (toB (frz (sVar 1))) (sBCons (toB (frz (sOp2 gAdd (toB (frz (sC (.int 1)))) (toB (frz (sCall den__law_take (sBCons (sRd 0) (sBCons (toB (frz (sC (.int 3)))) (sBNil))))))))) (sBNil))))))) (sBNil))))) (sBNil)))) [5]
def b0__law_book : D → T → SR :=
  sBody (gNm 3) (sSeq (sSet 4 (sLcB (sRng1 (sCons (frz (sCall den__law_take (sBCons (sRd 0) (sBCons (toB (frz (sC (.int 4)))) (sBNil))))) (sNil))) c0__law_book [5])) (sSeq (sSet 4 (sOp2 gAdd (sRd 4) (toB (frz (sOp2 gMul (toB (frz (sLst (sCons (frz (sTup (sNil))) (sNil))))) (toB (frz (sCB (g1 gIntC) (sBCons (toB (frz (sOp2 (gEq false) (toB (frz (sCall den__law_take (sBCons (sRd 0) (sBCons (toB (frz (sC (.int 3)))) (sBNil)))))) (toB (frz (sC (.int 0))))))) (sBNil)))))))))) (sDrop (sMeth 2 mAppend (sCons (frz (sTup (sCons (frz (sVar 3)) (sCons (frz (sCB (g1 gTuple) (sBCons (toB (frz (sCB (g1 gSS) (sBCons (sRd 4) (sBNil))))) (sBNil)))) (sNil))))) (sNil))))))
theorem nE__law_book : f__law_book = (sSeq (sSet 2 (sLst (sNil))) (sSeq (sForB (sItems (frz (sVar 1))) b0__law_book) (sRet (sCB (g1 gTupleP) (sBCons (sRd 2) (sBNil)))))) := rfl
theorem ok__law_book (B : Blt mg) (D__law_book : DefOk K mg "_law_book" (top 25) ["_law_urn", "_law_tags_here"]) (C__law_take : Callee P w K mg base px "_law_take" (defArgs (top 18)) ["_law_urn", "_law_low_so"] 1 den__law_take) (C__law_pick : Callee P w K mg base px "_law_pick" (defArgs (top 23)) ["_law_urn", "_law_pool", "_law_size_so"] 2 den__law_pick) : Callee P w K mg base px "_law_book" (defArgs (top 25)) ["_law_urn", "_law_tags_here"] 3 den__law_book := by
  have scN := sc__law_book
  refine callee (k := 2) (m := 4) (g := f__law_book) D__law_book sc__law_book rfl fun f cdv A outer s H E hr tk po => ?_
  have hu64 := hr.units
  have hu65 : (A.deeper (envOfC "_law_book" (defScope (top 25)) s.heap.objs.size f cdv)).units + 65 < cLine := by have := hr.un; omega
  have hu1 : (A.deeper (envOfC "_law_book" (defScope (top 25)) s.heap.objs.size f cdv)).units + 1 < cLine := by have := hr.un; omega
  exact jss_cons (js_asg (ps_set (i := 2) scN.nd rfl (by first | exact Or.inl rfl | exact Or.inr rfl) (jx_lst (ja_nil)) (by first | rfl | exact sw_false_name | decide)) (fun _ _ _ h => h))
      (jss_cons (js_for (gs := [3]) po rfl (ji_any (JX.frz (jx_var (pv 1)))) (jg_name (pg_name (i := 3) scN.nd rfl (by first | exact Or.inl rfl | exact Or.inr rfl)) (by decide)) (jss_cons (js_setLc (i := 4) (own := [("_law_lap", 5)]) rfl scN.nd rfl rfl (sw_true rfl rfl rfl (by decide +kernel)) (ji_range1 rfl B.range (ja_cons (JX.frz (jx_own C__law_take (hr.mono (by decide)) tk rfl (jab_cons (jb_rd (pv 0)) (jab_cons (JE.b (JX.frz (jx_int))) (jab_nil) rfl) rfl) (blS (blS bl0)) (by decide) rfl rfl)) (ja_nil) rfl) rfl) (blkOk_by (own := [("_law_lap", 5)]) (N := N__law_book) (by kernel_rfl)) (fun _ _ _ _ _ => jg_name (pg_name (i := 5) scN.nd rfl (by first | exact Or.inl rfl | exact Or.inr rfl)) (by decide)) (fun _ _ _ _ _ => jts_nil) (fun _ _ _ _ _ => JX.frz (jx_callTy (cr_tupleU rfl) rfl B.tuple boot_tuple (jab_cons (JE.b (JX.frz (jx_callB (cr_sortedU hu64) rfl B.sorted boot_sorted (jab_cons (JE.b (JX.frz (jx_own C__law_pick (hr.mono (by decide)) takes0 rfl (jab_cons (jb_rd (pv 0)) (jab_cons (JE.b (JX.frz (jx_var (pv 1)))) (jab_cons (JE.b (JX.frz (jx_bin op_addU (JE.b (JX.frz (jx_int))) (JE.b (JX.frz (jx_own C__law_take (hr.mono (by decide)) takes0 rfl (jab_cons (jb_rd (pv 0)) (jab_cons (JE.b (JX.frz (jx_int))) (jab_nil) rfl) rfl) (blS (blS bl0)) (by decide) rfl rfl)))))) (jab_nil) rfl) rfl) rfl) (blS (blS (blS bl0))) (by decide) rfl rfl))) (jab_nil) rfl) (by decide) (by decide) rfl rfl))) (jab_nil) rfl) (by decide) (by decide) rfl rfl)) (fun _ => rfl))
      (jss_cons (js_asg (ps_set (i := 4) scN.nd rfl (by first | exact Or.inl rfl | exact Or.inr rfl) (jx_bin op_addU (jb_rd (pv 4)) (JE.b (JX.frz (jx_bin op_mulU (JE.b (JX.frz (jx_lst (ja_cons (JX.frz (jx_tup (ja_nil))) (ja_nil) rfl)))) (JE.b (JX.frz (jx_callTy cr_intU rfl B.int boot_int (jab_cons (JE.b (JX.frz (jx_cmp (op_eqU hu64) (JE.b (JX.frz (jx_own C__law_take (hr.mono (by decide)) tk rfl (jab_cons (jb_rd (pv 0)) (jab_cons (JE.b (JX.frz (jx_int))) (jab_nil) rfl) rfl) (blS (blS bl0)) (by decide) rfl rfl))) (JE.b (JX.frz (jx_int))) rfl))) (jab_nil) rfl) (by decide) (by decide) rfl rfl))))))) (by first | rfl | exact sw_false_name | decide)) (fun _ _ _ h => h))
      (jss_one (js_expr (jx_meth PySem.F.slot_list_append PySem.F.type_list_append mo_append (pv 2) (ja_cons (JX.frz (jx_tup (ja_cons (JX.frz (jx_var (pv 3))) (ja_cons (JX.frz (jx_callTy (cr_tupleU rfl) rfl B.tuple boot_tuple (jab_cons (JE.b (JX.frz (jx_ss rfl hu64 rfl B.sorted rfl B.set (jab_cons (jb_rd (pv 4)) (jab_nil) rfl) rfl))) (jab_nil) rfl) (by decide) (by decide) rfl rfl)) (ja_nil) rfl) rfl))) (ja_nil) rfl) rfl rfl rfl rfl rfl) rfl)))) (fun _ => rfl))
      (jss_one (js_ret (jx_callTy cr_tupleP rfl B.tuple boot_tuple (jab_cons (jb_rd (pv 2)) (jab_nil) rfl) (by decide) (by decide) rfl rfl))))
/-! _law_able -/
def N__law_able : List Str := ["_law_needs_so", "_law_up_so", "_law_lot", "_law_tag"]
theorem sc__law_able : FnScope N__law_able ["_law_needs_so", "_law_up_so"] (defScope (top 26)) := ⟨rfl, rfl, rfl, by decide +kernel, rfl, by decide +kernel, by decide +kernel⟩
def f__law_able : T → SR :=
  sRet (sOp2 (gEq true) (toB (frz (sLc (sItems (frz (sVar 0))) (gNm 2) (sTB (sOp2 (gEq false) (toB (frz (sLc (sItems (frz (sVar 2))) (gNm 3) (sTB (sOp2 (gIn true) (sRd 3) (sRd 1))) (frz (sVar 3)) [3]))) (toB (frz (sLst (sNil)))))) (frz (sVar 2)) [2]))) (toB (frz (sLst (sNil)))))
def den__law_able : List Sl → DR := run 2 f__law_able
def c0__law_able : D → T → Rs (Option D) :=
  turnC (gNm 3) (sTB (sOp2 (gIn true) (sRd 3) (sRd 1))) (frz (sVar 3)) [3]
def c1__law_able : D → T → Rs (Option D) :=
  turnC (gNm 2) (sTB (sOp2 (gEq false) (toB (frz (sLcB (sItems (frz (sVar 2))) c0__law_able [3]))) (toB (frz (sLst (sNil)))))) (frz (sVar 2)) [2]
theorem nE__law_able : f__law_able = (sRet (sOp2 (gEq true) (toB (frz (sLcB (sItems (frz (sVar 0))) c1__law_able [2]))) (toB (frz (sLst (sNil)))))) := rfl
theorem ok__law_able (B : Blt mg) (D__law_able : DefOk K mg "_law_able" (top 26) ["_law_needs_so", "_law_up_so"])  : Callee P w K mg base px "_law_able" (defArgs (top 26)) ["_law_needs_so", "_law_up_so"] 1 den__law_able := by
  have scN := sc__law_able
  refine callee (k := 0) (m := 2) (g := f__law_able) D__law_able sc__law_able rfl fun f cdv A outer s H E hr tk po => ?_
  have hu64 := hr.units
  have hu65 : (A.deeper (envOfC "_law_able" (defScope (top 26)) s.heap.objs.size f cdv)).units + 65 < cLine := by have := hr.un; omega
  have hu1 : (A.deeper (envOfC "_law_able" (defScope (top 26)) s.heap.objs.size f cdv)).units + 1 < cLine := by have := hr.un; omega
  exact jss_one (js_ret (jx_cmp (op_neU hu64) (JE.b (JX.frz (jx_lc (own := [("_law_lot", 2)]) rfl scN.nd (ji_any (JX.frz (jx_var (pv 0)))) (blkOk_by (own := [("_law_lot", 2)]) (N := N__law_able) (by kernel_rfl)) (fun _ _ _ _ _ => jg_name (pg_name (i := 2) scN.nd rfl (by first | exact Or.inl rfl | exact Or.inr rfl)) (by decide)) (fun _ _ _ _ _ => jts_one (jt_cmp (op_eqU hu64) (JE.b (JX.frz (jx_lc (own := [("_law_tag", 3)]) rfl scN.nd (ji_any (JX.frz (jx_var (pv 2)))) (blkOk_by (own := [("_law_tag", 3)]) (N := N__law_able) (by kernel_rfl)) (fun _ _ _ _ _ => jg_name (pg_name (i := 3) scN.nd rfl (by first | exact Or.inl rfl | exact Or.inr rfl)) (by decide)) (fun _ _ _ _ _ => jts_one (jt_cmp (op_notInU hu65) (jb_rd (pv 3)) (jb_rd (pv 1)) rfl)) (fun _ _ _ _ _ => JX.frz (jx_var (pv 3))) (fun _ => rfl)))) (JE.b (JX.frz (jx_lst (ja_nil)))) rfl)) (fun _ _ _ _ _ => JX.frz (jx_var (pv 2))) (fun _ => rfl)))) (JE.b (JX.frz (jx_lst (ja_nil)))) rfl))
/-! _law_sets -/
def N__law_sets : List Str := ["_law_tags_here", "_law_found", "_law_tag", "_law_own"]
theorem sc__law_sets : FnScope N__law_sets ["_law_tags_here"] (defScope (top 27)) := ⟨rfl, rfl, rfl, by decide +kernel, rfl, by decide +kernel, by decide +kernel⟩
def f__law_sets : T → SR :=
  sSeq (sSet 1 (sLst (sCons (frz (sTup (sNil))) (sNil)))) (sSeq (sFor (sItems (frz (sCB (g1 gSorted) (sBCons (sRd 0) (sBNil))))) (gNm 2) (sSet 1 (sOp2 gAdd (sRd 1) (toB (frz (sLc (sItems (frz (sVar 1))) (gNm 3) (fun τ => .ok true τ) (frz (sOp2 gAdd (sRd 3) (toB (frz (sTup (sCons (frz (sVar 2)) (sNil))))))) [3])))))) (sRet (sLc (sItems (frz (sCB (g1 gSorted) (sBCons (toB (frz (sLc (sItems (frz (sVar 1))) (gNm 3) (fun τ => .ok true τ) (frz (sTup (sCons (frz (sCB (g1 gLen) (sBCons (sRd 3) (sBNil)))) (sCons (frz (sVar 3)) (sNil))))) [3]))) (sBNil))))) (gNm 3) (fun τ => .ok true τ) (frz (sOp2 gIx (sRd 3) (toB (frz (sC (.int 1)))))) [3])))
def den__law_sets : List Sl → DR := run 3 f__law_sets
def c0__law_sets : D → T → Rs (Option D) :=
  turnC (gNm 3) (fun τ => .ok true τ) (frz (sOp2 gAdd (sRd 3) (toB (frz (sTup (sCons (frz (sVar 2)) (sNil))))))) [3]
def b0__law_sets : D → T → SR :=
  sBody (gNm 2) (sSet 1 (sOp2 gAdd (sRd 1) (toB (frz (sLcB (sItems (frz (sVar 1))) c0__law_sets [3])))))
def c1__law_sets : D → T → Rs (Option D) :=
  turnC (gNm 3) (fun τ => .ok true τ) (frz (sTup (sCons (frz (sCB (g1 gLen) (sBCons (sRd 3) (sBNil)))) (sCons (frz (sVar 3)) (sNil))))) [3]
def c2__law_sets : D → T → Rs (Option D) :=
  turnC (gNm 3) (fun τ => .ok true τ) (frz (sOp2 gIx (sRd 3) (toB (frz (sC (.int 1)))))) [3]
theorem nE__law_sets : f__law_sets = (sSeq (sSet 1 (sLst (sCons (frz (sTup (sNil))) (sNil)))) (sSeq (sForB (sItems (frz (sCB (g1 gSorted) (sBCons (sRd 0) (sBNil))))) b0__law_sets) (sRet (sLcB (sItems (frz (sCB (g1 gSorted) (sBCons (toB (frz (sLcB (sItems (frz (sVar 1))) c1__law_sets [3]))) (sBNil))))) c2__law_sets [3])))) := rfl
theorem ok__law_sets (B : Blt mg) (D__law_sets : DefOk K mg "_law_sets" (top 27) ["_law_tags_here"])  : Callee P w K mg base px "_law_sets" (defArgs (top 27)) ["_law_tags_here"] 1 den__law_sets := by
  have scN := sc__law_sets
  refine callee (k := 0) (m := 3) (g := f__law_sets) D__law_sets sc__law_sets rfl fun f cdv A outer s H E hr tk po => ?_
  have hu64 := hr.units
  have hu65 : (A.deeper (envOfC "_law_sets" (defScope (top 27)) s.heap.objs.size f cdv)).units + 65 < cLine := by have := hr.un; omega
  have hu1 : (A.deeper (envOfC "_law_sets" (defScope (top 27)) s.heap.objs.size f cdv)).units + 1 < cLine := by have := hr.un; omega
  exact jss_cons (js_asg (ps_set (i := 1) scN.nd rfl (by first | exact Or.inl rfl | exact Or.inr rfl) (jx_lst (ja_cons (JX.frz (jx_tup (ja_nil))) (ja_nil) rfl)) (by first | rfl | exact sw_false_name | decide)) (fun _ _ _ h => h))
      (jss_cons (js_for (gs := [2]) po rfl (ji_any (JX.frz (jx_callB (cr_sortedU hu64) rfl B.sorted boot_sorted (jab_cons (jb_rd (pv 0)) (jab_nil) rfl) (by decide) (by decide) rfl rfl))) (jg_name (pg_name (i := 2) scN.nd rfl (by first | exact Or.inl rfl | exact Or.inr rfl)) (by decide)) (jss_one (js_asg (ps_set (i := 1) scN.nd rfl (by first | exact Or.inl rfl | exact Or.inr rfl) (jx_bin op_addU (jb_rd (pv 1)) (JE.b (JX.frz (jx_lc (own := [("_law_own", 3)]) rfl scN.nd (ji_any (JX.frz (jx_var (pv 1)))) (blkOk_by (own := [("_law_own", 3)]) (N := N__law_sets) (by kernel_rfl)) (fun _ _ _ _ _ => jg_name (pg_name (i := 3) scN.nd rfl (by first | exact Or.inl rfl | exact Or.inr rfl)) (by decide)) (fun _ _ _ _ _ => jts_nil) (fun _ _ _ _ _ => JX.frz (jx_bin op_addU (jb_rd (pv 3)) (JE.b (JX.frz (jx_tup (ja_cons (JX.frz (jx_var (pv 2))) (ja_nil) rfl)))))) (fun _ => rfl))))) (by first | rfl | exact sw_false_name | decide)) (fun _ _ _ h => h))) (fun _ => rfl))
      (jss_one (js_ret (jx_lc (own := [("_law_own", 3)]) rfl scN.nd (ji_any (JX.frz (jx_callB (cr_sortedU hu64) rfl B.sorted boot_sorted (jab_cons (JE.b (JX.frz (jx_lc (own := [("_law_own", 3)]) rfl scN.nd (ji_any (JX.frz (jx_var (pv 1)))) (blkOk_by (own := [("_law_own", 3)]) (N := N__law_sets) (by kernel_rfl)) (fun _ _ _ _ _ => jg_name (pg_name (i := 3) scN.nd rfl (by first | exact Or.inl rfl | exact Or.inr rfl)) (by decide)) (fun _ _ _ _ _ => jts_nil) (fun _ _ _ _ _ => JX.frz (jx_tup (ja_cons (JX.frz (jx_callB cr_lenU rfl B.len boot_len (jab_cons (jb_rd (pv 3)) (jab_nil) rfl) (by decide) (by decide) rfl rfl)) (ja_cons (JX.frz (jx_var (pv 3))) (ja_nil) rfl) rfl))) (fun _ => rfl)))) (jab_nil) rfl) (by decide) (by decide) rfl rfl))) (blkOk_by (own := [("_law_own", 3)]) (N := N__law_sets) (by kernel_rfl)) (fun _ _ _ _ _ => jg_name (pg_name (i := 3) scN.nd rfl (by first | exact Or.inl rfl | exact Or.inr rfl)) (by decide)) (fun _ _ _ _ _ => jts_nil) (fun _ _ _ _ _ => JX.frz (jx_ix (ix_U hu1) (jb_rd (pv 3)) (JE.b (JX.frz (jx_int))) (fun _ _ => rfl))) (fun _ => rfl)))))
/-! _law_within -/
def N__law_within : List Str := ["_law_lot", "_law_far", "_law_tag"]
theorem sc__law_within : FnScope N__law_within ["_law_lot", "_law_far"] (defScope (top 28)) := ⟨rfl, rfl, rfl, by decide +kernel, rfl, by decide +kernel, by decide +kernel⟩
def f__law_within : T → SR :=
  sRet (sOp2 (gEq false) (toB (frz (sLc (sItems (frz (sVar 0))) (gNm 2) (sTB (sOp2 (gIn true) (sRd 2) (sRd 1))) (frz (sVar 2)) [2]))) (toB (frz (sLst (sNil)))))
def den__law_within : List Sl → DR := run 1 f__law_within
def c0__law_within : D → T → Rs (Option D) :=
  turnC (gNm 2) (sTB (sOp2 (gIn true) (sRd 2) (sRd 1))) (frz (sVar 2)) [2]
theorem nE__law_within : f__law_within = (sRet (sOp2 (gEq false) (toB (frz (sLcB (sItems (frz (sVar 0))) c0__law_within [2]))) (toB (frz (sLst (sNil)))))) := rfl
theorem ok__law_within (B : Blt mg) (D__law_within : DefOk K mg "_law_within" (top 28) ["_law_lot", "_law_far"])  : Callee P w K mg base px "_law_within" (defArgs (top 28)) ["_law_lot", "_law_far"] 1 den__law_within := by
  have scN := sc__law_within
  refine callee (k := 0) (m := 1) (g := f__law_within) D__law_within sc__law_within rfl fun f cdv A outer s H E hr tk po => ?_
  have hu64 := hr.units
  have hu65 : (A.deeper (envOfC "_law_within" (defScope (top 28)) s.heap.objs.size f cdv)).units + 65 < cLine := by have := hr.un; omega
  have hu1 : (A.deeper (envOfC "_law_within" (defScope (top 28)) s.heap.objs.size f cdv)).units + 1 < cLine := by have := hr.un; omega
  exact jss_one (js_ret (jx_cmp (op_eqU hu64) (JE.b (JX.frz (jx_lc (own := [("_law_tag", 2)]) rfl scN.nd (ji_any (JX.frz (jx_var (pv 0)))) (blkOk_by (own := [("_law_tag", 2)]) (N := N__law_within) (by kernel_rfl)) (fun _ _ _ _ _ => jg_name (pg_name (i := 2) scN.nd rfl (by first | exact Or.inl rfl | exact Or.inr rfl)) (by decide)) (fun _ _ _ _ _ => jts_one (jt_cmp (op_notInU hu65) (jb_rd (pv 2)) (jb_rd (pv 1)) rfl)) (fun _ _ _ _ _ => JX.frz (jx_var (pv 2))) (fun _ => rfl)))) (JE.b (JX.frz (jx_lst (ja_nil)))) rfl))
/-! _law_all_needs -/
def N__law_all_needs : List Str := ["_law_others", "_law_lots", "_law_found", "_law_lot", "_law_longer", "_law_own", "_law_its"]
theorem sc__law_all_needs : FnScope N__law_all_needs ["_law_others"] (defScope (top 29)) := ⟨rfl, rfl, rfl, by decide +kernel, rfl, by decide +kernel, by decide +kernel⟩
def f__law_all_needs : T → SR :=
  sSeq (sSet 1 (sCall den__law_sets (sBCons (toB (frz (sVar 0))) (sBNil)))) (sSeq (sSet 2 (sLst (sCons (frz (sTup (sNil))) (sNil)))) (sSeq (sFor (sItems (frz (sVar 1))) (gNm 3) (sSeq (sSet 4 (sLst (sNil))) (sSeq (sFor (sItems (frz (sVar 2))) (gNm 5) (sIfS (sTB (sOp2 (gEq false) (toB (frz (sLc (sItems (frz (sVar 5))) (gNm 6) (sOr (sTru (toB (frz (sCall den__law_within (sBCons (toB (frz (sVar 6))) (sBCons (toB (frz (sVar 3))) (sBNil))))))) (sTru (toB (frz (sCall den__law_within (sBCons (toB (frz (sVar 3))) (sBCons (toB (frz (sVar 6))) (sBNil)))))))) (frz (sVar 6)) [6]))) (toB (frz (sLst (sNil)))))) (sDrop (sMeth 4 mAppend (sCons (frz (sCB (g1 gTuple) (sBCons (toB (frz (sCB (g1 gSorted) (sBCons (toB (frz (sOp2 gAdd (sRd 5) (toB (frz (sTup (sCons (frz (sVar 3)) (sNil)))))))) (sBNil))))) (sBNil)))) (sNil)))) (sNext))) (sSet 2 (sOp2 gAdd (sRd 2) (sRd 4)))))) (sRetV 2)))
def den__law_all_needs : List Sl → DR := run 6 f__law_all_needs
def c0__law_all_needs : D → T → Rs (Option D) :=
  turnC (gNm 6) (sOr (sTru (toB (frz (sCall den__law_within (sBCons (toB (frz (sVar 6))) (sBCons (toB (frz (sVar 3))) (sBNil))))))) (sTru (toB (frz (sCall den__law_within (sBCons (toB (frz (sVar 3))) (sBCons (toB (frz (sVar 6))) (sBNil)))))))) (frz (sVar 6)) [6]
def b0__law_all_needs : D → T → SR :=
  sBody (gNm 5) (sIfS (sTB (sOp2 (gEq false) (toB (frz (sLcB (sItems (frz (sVar 5))) c0__law_all_needs [6]))) (toB (frz (sLst (sNil)))))) (sDrop (sMeth 4 mAppend (sCons (frz (sCB (g1 gTuple) (sBCons (toB (frz (sCB (g1 gSorted) (sBCons (toB (frz (sOp2 gAdd (sRd 5) (toB (frz (sTup (sCons (frz (sVar 3)) (sNil)))))))) (sBNil))))) (sBNil)))) (sNil)))) (sNext))
def b1__law_all_needs : D → T → SR :=
  sBody (gNm 3) (sSeq (sSet 4 (sLst (sNil))) (sSeq (sForB (sItems (frz (sVar 2))) b0__law_all_needs) (sSet 2 (sOp2 gAdd (sRd 2) (sRd 4)))))
theorem nE__law_all_needs : f__law_all_needs = (sSeq (sSet 1 (sCall den__law_sets (sBCons (toB (frz (sVar 0))) (sBNil)))) (sSeq (sSet 2 (sLst (sCons (frz (sTup (sNil))) (sNil)))) (sSeq (sForB (sItems (frz (sVar 1))) b1__law_all_needs) (sRetV 2)))) := rfl
theorem ok__law_all_needs (B : Blt mg) (D__law_all_needs : DefOk K mg "_law_all_needs" (top 29) ["_law_others"]) (C__law_sets : Callee P w K mg base px "_law_sets" (defArgs (top 27)) ["_law_tags_here"] 1 den__law_sets) (C__law_within : Callee P w K mg base px "_law_within" (defArgs (top 28)) ["_law_lot", "_law_far"] 1 den__law_within) : Callee P w K mg base px "_law_all_needs" (defArgs (top 29)) ["_law_others"] 2 den__law_all_needs := by
  have scN := sc__law_all_needs
  refine callee (k := 1) (m := 6) (g := f__law_all_needs) D__law_all_needs sc__law_all_needs rfl fun f cdv A outer s H E hr tk po => ?_
  have hu64 := hr.units
  have hu65 : (A.deeper (envOfC "_law_all_needs" (defScope (top 29)) s.heap.objs.size f cdv)).units + 65 < cLine := by have := hr.un; omega
  have hu1 : (A.deeper (envOfC "_law_all_needs" (defScope (top 29)) s.heap.objs.size f cdv)).units + 1 < cLine := by have := hr.un; omega
  exact jss_cons (js_asg (ps_set (i := 1) scN.nd rfl (by first | exact Or.inl rfl | exact Or.inr rfl) (jx_own C__law_sets (hr.mono (by decide)) tk rfl (jab_cons (JE.b (JX.frz (jx_var (pv 0)))) (jab_nil) rfl) (blS bl0) (by decide) rfl rfl) (by first | rfl | exact sw_false_name | decide)) (fun _ _ _ h => h))
      (jss_cons (js_asg (ps_set (i := 2) scN.nd rfl (by first | exact Or.inl rfl | exact Or.inr rfl) (jx_lst (ja_cons (JX.frz (jx_tup (ja_nil))) (ja_nil) rfl)) (by first | rfl | exact sw_false_name | decide)) (fun _ _ _ h => h))
      (jss_cons (js_for (gs := [3]) po rfl (ji_any (JX.frz (jx_var (pv 1)))) (jg_name (pg_name (i := 3) scN.nd rfl (by first | exact Or.inl rfl | exact Or.inr rfl)) (by decide)) (jss_cons (js_asg (ps_set (i := 4) scN.nd rfl (by first | exact Or.inl rfl | exact Or.inr rfl) (jx_lst (ja_nil)) (by first | rfl | exact sw_false_name | decide)) (fun _ _ _ h => h))
      (jss_cons (js_for (gs := [5]) po rfl (ji_any (JX.frz (jx_var (pv 2)))) (jg_name (pg_name (i := 5) scN.nd rfl (by first | exact Or.inl rfl | exact Or.inr rfl)) (by decide)) (jss_one (js_if (jt_cmp (op_eqU hu64) (JE.b (JX.frz (jx_lc (own := [("_law_its", 6)]) rfl scN.nd (ji_any (JX.frz (jx_var (pv 5)))) (blkOk_by (own := [("_law_its", 6)]) (N := N__law_all_needs) (by kernel_rfl)) (fun _ _ _ _ _ => jg_name (pg_name (i := 6) scN.nd rfl (by first | exact Or.inl rfl | exact Or.inr rfl)) (by decide)) (fun _ _ _ _ _ => jts_one (JW.t (jw_or (jt_truth (JE.b (JX.frz (jx_own C__law_within (hr.mono (by decide)) takes0 rfl (jab_cons (JE.b (JX.frz (jx_var (pv 6)))) (jab_cons (JE.b (JX.frz (jx_var (pv 3)))) (jab_nil) rfl) rfl) (blS (blS bl0)) (by decide) rfl rfl))) (fun _ => rfl)) (jw_or1 (jt_truth (JE.b (JX.frz (jx_own C__law_within (hr.mono (by decide)) takes0 rfl (jab_cons (JE.b (JX.frz (jx_var (pv 3)))) (jab_cons (JE.b (JX.frz (jx_var (pv 6)))) (jab_nil) rfl) rfl) (blS (blS bl0)) (by decide) rfl rfl))) (fun _ => rfl)))))) (fun _ _ _ _ _ => JX.frz (jx_var (pv 6))) (fun _ => rfl)))) (JE.b (JX.frz (jx_lst (ja_nil)))) rfl) (jss_one (js_expr (jx_meth PySem.F.slot_list_append PySem.F.type_list_append mo_append (pv 4) (ja_cons (JX.frz (jx_callTy (cr_tupleU rfl) rfl B.tuple boot_tuple (jab_cons (JE.b (JX.frz (jx_callB (cr_sortedU hu64) rfl B.sorted boot_sorted (jab_cons (JE.b (JX.frz (jx_bin op_addU (jb_rd (pv 5)) (JE.b (JX.frz (jx_tup (ja_cons (JX.frz (jx_var (pv 3))) (ja_nil) rfl))))))) (jab_nil) rfl) (by decide) (by decide) rfl rfl))) (jab_nil) rfl) (by decide) (by decide) rfl rfl)) (ja_nil) rfl) rfl rfl rfl rfl rfl) rfl)) (jss_nil))) (fun _ => rfl))
      (jss_one (js_asg (ps_set (i := 2) scN.nd rfl (by first | exact Or.inl rfl | exact Or.inr rfl) (jx_bin op_addU (jb_rd (pv 2)) (jb_rd (pv 4))) (by first | rfl | exact sw_false_name | decide)) (fun _ _ _ h => h))))) (fun _ => rfl))
      (jss_one (js_retV (pv 2)))))
/-! _law_fit_needs -/
def N__law_fit_needs : List Str := ["_law_tags_here", "_law_places_in", "_law_tag", "_law_rest", "_law_found", "_law_needs_so", "_law_odd", "_law_own"]
theorem sc__law_fit_needs : FnScope N__law_fit_needs ["_law_tags_here", "_law_places_in", "_law_tag"] (defScope (top 30)) := ⟨rfl, rfl, rfl, by decide +kernel, rfl, by decide +kernel, by decide +kernel⟩
def f__law_fit_needs : T → SR :=
  sSeq (sPar [3, 4] (sXCons (sLc (sItems (frz (sVar 0))) (gNm 7) (sTB (sOp2 (gEq true) (sRd 7) (sRd 2))) (frz (sVar 7)) [7]) (sXCons (sLst (sNil)) (sXNil)))) (sSeq (sFor (sItems (frz (sCall den__law_all_needs (sBCons (toB (frz (sVar 3))) (sBNil))))) (gNm 5) (sSeq (sSet 6 (sLc (sItems (frz (sVar 1))) (gNm 7) (sAnd (sTB (sOp2 (gEq false) (toB (frz (sOp2 gIx (sRd 7) (toB (frz (sC (.int 1))))))) (sRd 2))) (sTB (sOp2 (gEq true) (toB (frz (sCall den__law_able (sBCons (toB (frz (sVar 5))) (sBCons (toB (frz (sOp2 gIx (sRd 7) (toB (frz (sC (.int 0))))))) (sBNil)))))) (toB (frz (sOp2 gIx (sRd 7) (toB (frz (sC (.int 2)))))))))) (frz (sVar 7)) [7])) (sSet 4 (sOp2 gAdd (sRd 4) (toB (frz (sOp2 gMul (toB (frz (sLst (sCons (frz (sVar 5)) (sNil))))) (toB (frz (sCB (g1 gIntC) (sBCons (toB (frz (sOp2 (gEq false) (sRd 6) (toB (frz (sLst (sNil))))))) (sBNil)))))))))))) (sRetV 4))
def den__law_fit_needs : List Sl → DR := run 5 f__law_fit_needs
def c0__law_fit_needs : D → T → Rs (Option D) :=
  turnC (gNm 7) (sTB (sOp2 (gEq true) (sRd 7) (sRd 2))) (frz (sVar 7)) [7]
def c1__law_fit_needs : D → T → Rs (Option D) :=
  turnC (gNm 7) (sAnd (sTB (sOp2 (gEq false) (toB (frz (sOp2 gIx (sRd 7) (toB (frz (sC (.int 1))))))) (sRd 2))) (sTB (sOp2 (gEq true) (toB (frz (sCall den__law_able (sBCons (toB (frz (sVar 5))) (sBCons (toB (frz (sOp2 gIx (sRd 7) (toB (frz (sC (.int 0))))))) (sBNil)))))) (toB (frz (sOp2 gIx (sRd 7) (toB (frz (sC (.int 2)))))))))) (frz (sVar 7)) [7]
def b0__law_fit_needs : D → T → SR :=
  sBody (gNm 5) (sSeq (sSet 6 (sLcB (sItems (frz (sVar 1))) c1__law_fit_needs [7])) (sSet 4 (sOp2 gAdd (sRd 4) (toB (frz (sOp2 gMul (toB (frz (sLst (sCons (frz (sVar 5)) (sNil))))) (toB (frz (sCB (g1 gIntC) (sBCons (toB (frz (sOp2 (gEq false) (sRd 6) (toB (frz (sLst (sNil))))))) (sBNil)))))))))))
theorem nE__law_fit_needs : f__law_fit_needs = (sSeq (sPar [3, 4] (sXCons (sLcB (sItems (frz (sVar 0))) c0__law_fit_needs [7]) (sXCons (sLst (sNil)) (sXNil)))) (sSeq (sForB (sItems (frz (sCall den__law_all_needs (sBCons (toB (frz (sVar 3))) (sBNil))))) b0__law_fit_needs) (sRetV 4))) := rfl
theorem ok__law_fit_needs (B : Blt mg) (D__law_fit_needs : DefOk K mg "_law_fit_needs" (top 30) ["_law_tags_here", "_law_places_in", "_law_tag"]) (C__law_all_needs : Callee P w K mg base px "_law_all_needs" (defArgs (top 29)) ["_law_others"] 2 den__law_all_needs) (C__law_able : Callee P w K mg base px "_law_able" (defArgs (top 26)) ["_law_needs_so", "_law_up_so"] 1 den__law_able) : Callee P w K mg base px "_law_fit_needs" (defArgs (top 30)) ["_law_tags_here", "_law_places_in", "_law_tag"] 3 den__law_fit_needs := by
  have scN := sc__law_fit_needs
  refine callee (k := 2) (m := 5) (g := f__law_fit_needs) D__law_fit_needs sc__law_fit_needs rfl fun f cdv A outer s H E hr tk po => ?_
  have hu64 := hr.units
  have hu65 : (A.deeper (envOfC "_law_fit_needs" (defScope (top 30)) s.heap.objs.size f cdv)).units + 65 < cLine := by have := hr.un; omega
  have hu1 : (A.deeper (envOfC "_law_fit_needs" (defScope (top 30)) s.heap.objs.size f cdv)).units + 1 < cLine := by have := hr.un; omega
  exact jss_cons (js_par (is := [3, 4]) (xs := ["_law_rest", "_law_found"]) rfl scN.nd rfl (by kernel_rfl) (by decide) (jax_cons (jx_lc (own := [("_law_own", 7)]) rfl scN.nd (ji_any (JX.frz (jx_var (pv 0)))) (blkOk_by (own := [("_law_own", 7)]) (N := N__law_fit_needs) (by kernel_rfl)) (fun _ _ _ _ _ => jg_name (pg_name (i := 7) scN.nd rfl (by first | exact Or.inl rfl | exact Or.inr rfl)) (by decide)) (fun _ _ _ _ _ => jts_one (jt_cmp (op_neU hu64) (jb_rd (pv 7)) (jb_rd (pv 2)) rfl)) (fun _ _ _ _ _ => JX.frz (jx_var (pv 7))) (fun _ => rfl)) (jax_cons (jx_lst (ja_nil)) (jax_nil) rfl) rfl) rfl rfl)
      (jss_cons (js_for (gs := [5]) po rfl (ji_any (JX.frz (jx_own C__law_all_needs (hr.mono (by decide)) tk rfl (jab_cons (JE.b (JX.frz (jx_var (pv 3)))) (jab_nil) rfl) (blS bl0) (by decide) rfl rfl))) (jg_name (pg_name (i := 5) scN.nd rfl (by first | exact Or.inl rfl | exact Or.inr rfl)) (by decide)) (jss_cons (js_setLc (i := 6) (own := [("_law_own", 7)]) rfl scN.nd rfl rfl (sw_true rfl rfl rfl (by decide +kernel)) (ji_any (JX.frz (jx_var (pv 1)))) (blkOk_by (own := [("_law_own", 7)]) (N := N__law_fit_needs) (by kernel_rfl)) (fun _ _ _ _ _ => jg_name (pg_name (i := 7) scN.nd rfl (by first | exact Or.inl rfl | exact Or.inr rfl)) (by decide)) (fun _ _ _ _ _ => jts_one (JW.t (jw_and (jt_cmp (op_eqU hu64) (JE.b (JX.frz (jx_ix (ix_U hu1) (jb_rd (pv 7)) (JE.b (JX.frz (jx_int))) (fun _ _ => rfl)))) (jb_rd (pv 2)) rfl) (jw_and1 (jt_cmp (op_neU hu64) (JE.b (JX.frz (jx_own C__law_able (hr.mono (by decide)) takes0 rfl (jab_cons (JE.b (JX.frz (jx_var (pv 5)))) (jab_cons (JE.b (JX.frz (jx_ix (ix_U hu1) (jb_rd (pv 7)) (JE.b (JX.frz (jx_int))) (fun _ _ => rfl)))) (jab_nil) rfl) rfl) (blS (blS bl0)) (by decide) rfl rfl))) (JE.b (JX.frz (jx_ix (ix_U hu1) (jb_rd (pv 7)) (JE.b (JX.frz (jx_int))) (fun _ _ => rfl)))) rfl))))) (fun _ _ _ _ _ => JX.frz (jx_var (pv 7))) (fun _ => rfl))
      (jss_one (js_asg (ps_set (i := 4) scN.nd rfl (by first | exact Or.inl rfl | exact Or.inr rfl) (jx_bin op_addU (jb_rd (pv 4)) (JE.b (JX.frz (jx_bin op_mulU (JE.b (JX.frz (jx_lst (ja_cons (JX.frz (jx_var (pv 5))) (ja_nil) rfl)))) (JE.b (JX.frz (jx_callTy cr_intU rfl B.int boot_int (jab_cons (JE.b (JX.frz (jx_cmp (op_eqU hu64) (jb_rd (pv 6)) (JE.b (JX.frz (jx_lst (ja_nil)))) rfl))) (jab_nil) rfl) (by decide) (by decide) rfl rfl))))))) (by first | rfl | exact sw_false_name | decide)) (fun _ _ _ h => h)))) (fun _ => rfl))
      (jss_one (js_retV (pv 4))))
/-! _law_places -/
def N__law_places : List Str := ["_law_urn", "_law_tags_here", "_law_host", "_law_many_so", "_law_table", "_law_found", "_law_lap", "_law_tag", "_law_up_so", "_law_came_so", "_law_own"]
theorem sc__law_places : FnScope N__law_places ["_law_urn", "_law_tags_here", "_law_host", "_law_many_so"] (defScope (top 31)) := ⟨rfl, rfl, rfl, by decide +kernel, rfl, by decide +kernel, by decide +kernel⟩
def f__law_places : T → SR :=
  sSeq (sPar [4, 5] (sXCons (sCB (g1 gDict) (sBCons (sRd 2) (sBNil))) (sXCons (sLst (sNil)) (sXNil)))) (sSeq (sFor (sRng1 (sCons (frz (sVar 3)) (sNil))) (gNm 6) (sSeq (sSet 7 (sCall den__law_of (sBCons (sRd 0) (sBCons (toB (frz (sVar 1))) (sBNil))))) (sSeq (sSet 8 (sCB (g1 gTuple) (sBCons (toB (frz (sCB (g1 gSorted) (sBCons (toB (frz (sCall den__law_pick (sBCons (sRd 0) (sBCons (toB (frz (sLc (sItems (frz (sVar 1))) (gNm 10) (sTB (sOp2 (gEq true) (sRd 10) (sRd 7))) (frz (sVar 10)) [10]))) (sBCons (toB (frz (sCall den__law_take (sBCons (sRd 0) (sBCons (toB (frz (sCB (g1 gLen) (sBCons (sRd 1) (sBNil))))) (sBNil)))))) (sBNil))))))) (sBNil))))) (sBNil)))) (sSeq (sSet 9 (sOp2 (gEq true) (toB (frz (sCall den__law_able (sBCons (toB (frz (sOp2 gIx (sRd 4) (sRd 7)))) (sBCons (toB (frz (sVar 8))) (sBNil)))))) (toB (frz (sOp2 (gEq false) (toB (frz (sCall den__law_take (sBCons (sRd 0) (sBCons (toB (frz (sC (.int 12)))) (sBNil)))))) (toB (frz (sC (.int 0))))))))) (sDrop (sMeth 5 mAppend (sCons (frz (sTup (sCons (frz (sVar 8)) (sCons (frz (sVar 7)) (sCons (frz (sVar 9)) (sNil)))))) (sNil)))))))) (sRet (sCB (g1 gTuple) (sBCons (sRd 5) (sBNil)))))
def den__law_places : List Sl → DR := run 7 f__law_places
def c0__law_places : D → T → Rs (Option D) :=
  turnC (gNm 10) (sTB (sOp2 (gEq true) (sRd 10) (sRd 7))) (frz (sVar 10)) [10]
def b0__law_places : D → T → SR :=
  sBody (gNm 6) (sSeq (sSet 7 (sCall den__law_of (sBCons (sRd 0) (sBCons (toB (frz (sVar 1))) (sBNil))))) (sSeq (sSet 8 (sCB (g1 gTuple) (sBCons (toB (frz (sCB (g1 gSorted) (sBCons (toB (frz (sCall den__law_pick (sBCons (sRd 0) (sBCons (toB (frz (sLcB (sItems (frz (sVar 1))) c0__law_places [10]))) (sBCons (toB (frz (sCall den__law_take (sBCons (sRd 0) (sBCons (toB (frz (sCB (g1 gLen) (sBCons (sRd 1) (sBNil))))) (sBNil)))))) (sBNil))))))) (sBNil))))) (sBNil)))) (sSeq (sSet 9 (sOp2 (gEq true) (toB (frz (sCall den__law_able (sBCons (toB (frz (sOp2 gIx (sRd 4) (sRd 7)))) (sBCons (toB (frz (sVar 8))) (sBNil)))))) (toB (frz (sOp2 (gEq false) (toB (frz (sCall den__law_take (sBCons (sRd 0) (sBCons (toB (frz (sC (.int 12)))) (sBNil)))))) (toB (frz (sC (.int 0))))))))) (sDrop (sMeth 5 mAppend (sCons (frz (sTup (sCons (frz (sVar 8)) (sCons (frz (sVar 7)) (sCons (frz (sVar 9)) (sNil)))))) (sNil)))))))
theorem nE__law_places : f__law_places = (sSeq (sPar [4, 5] (sXCons (sCB (g1 gDict) (sBCons (sRd 2) (sBNil))) (sXCons (sLst (sNil)) (sXNil)))) (sSeq (sForB (sRng1 (sCons (frz (sVar 3)) (sNil))) b0__law_places) (sRet (sCB (g1 gTuple) (sBCons (sRd 5) (sBNil)))))) := rfl
theorem ok__law_places (B : Blt mg) (D__law_places : DefOk K mg "_law_places" (top 31) ["_law_urn", "_law_tags_here", "_law_host", "_law_many_so"]) (C__law_of : Callee P w K mg base px "_law_of" (defArgs (top 20)) ["_law_urn", "_law_some_so"] 2 den__law_of) (C__law_pick : Callee P w K mg base px "_law_pick" (defArgs (top 23)) ["_law_urn", "_law_pool", "_law_size_so"] 2 den__law_pick) (C__law_take : Callee P w K mg base px "_law_take" (defArgs (top 18)) ["_law_urn", "_law_low_so"] 1 den__law_take) (C__law_able : Callee P w K mg base px "_law_able" (defArgs (top 26)) ["_law_needs_so", "_law_up_so"] 1 den__law_able) : Callee P w K mg base px "_law_places" (defArgs (top 31)) ["_law_urn", "_law_tags_here", "_law_host", "_law_many_so"] 3 den__law_places := by
  have scN := sc__law_places
  refine callee (k := 2) (m := 7) (g := f__law_places) D__law_places sc__law_places rfl fun f cdv A outer s H E hr tk po => ?_
  have hu64 := hr.units
  have hu65 : (A.deeper (envOfC "_law_places" (defScope (top 31)) s.heap.objs.size f cdv)).units + 65 < cLine := by have := hr.un; omega
  have hu1 : (A.deeper (envOfC "_law_places" (defScope (top 31)) s.heap.objs.size f cdv)).units + 1 < cLine := by have := hr.un; omega
  exact jss_cons (js_par (is := [4, 5]) (xs := ["_law_table", "_law_found"]) rfl scN.nd rfl (by kernel_rfl) (by decide) (jax_cons (jx_callTy (cr_dictP rfl) rfl B.dict boot_dict (jab_cons (jb_rd (pv 2)) (jab_nil) rfl) (by decide) (by decide) rfl rfl) (jax_cons (jx_lst (ja_nil)) (jax_nil) rfl) rfl) rfl rfl)
      (jss_cons (js_for (gs := [6]) po rfl (ji_range1 rfl B.range (ja_cons (JX.frz (jx_var (pv 3))) (ja_nil) rfl) rfl) (jg_name (pg_name (i := 6) scN.nd rfl (by first | exact Or.inl rfl | exact Or.inr rfl)) (by decide)) (jss_cons (js_asg (ps_set (i := 7) scN.nd rfl (by first | exact Or.inl rfl | exact Or.inr rfl) (jx_own C__law_of (hr.mono (by decide)) tk rfl (jab_cons (jb_rd (pv 0)) (jab_cons (JE.b (JX.frz (jx_var (pv 1)))) (jab_nil) rfl) rfl) (blS (blS bl0)) (by decide) rfl rfl) (by first | rfl | exact sw_false_name | decide)) (fun _ _ _ h => h))
      (jss_cons (js_asg (ps_set (i := 8) scN.nd rfl (by first | exact Or.inl rfl | exact Or.inr rfl) (jx_callTy (cr_tupleU rfl) rfl B.tuple boot_tuple (jab_cons (JE.b (JX.frz (jx_callB (cr_sortedU hu64) rfl B.sorted boot_sorted (jab_cons (JE.b (JX.frz (jx_own C__law_pick (hr.mono (by decide)) tk rfl (jab_cons (jb_rd (pv 0)) (jab_cons (JE.b (JX.frz (jx_lc (own := [("_law_own", 10)]) rfl scN.nd (ji_any (JX.frz (jx_var (pv 1)))) (blkOk_by (own := [("_law_own", 10)]) (N := N__law_places) (by kernel_rfl)) (fun _ _ _ _ _ => jg_name (pg_name (i := 10) scN.nd rfl (by first | exact Or.inl rfl | exact Or.inr rfl)) (by decide)) (fun _ _ _ _ _ => jts_one (jt_cmp (op_neU hu64) (jb_rd (pv 10)) (jb_rd (pv 7)) rfl)) (fun _ _ _ _ _ => JX.frz (jx_var (pv 10))) (fun _ => rfl)))) (jab_cons (JE.b (JX.frz (jx_own C__law_take (hr.mono (by decide)) tk rfl (jab_cons (jb_rd (pv 0)) (jab_cons (JE.b (JX.frz (jx_callB cr_lenU rfl B.len boot_len (jab_cons (jb_rd (pv 1)) (jab_nil) rfl) (by decide) (by decide) rfl rfl))) (jab_nil) rfl) rfl) (blS (blS bl0)) (by decide) rfl rfl))) (jab_nil) rfl) rfl) rfl) (blS (blS (blS bl0))) (by decide) rfl rfl))) (jab_nil) rfl) (by decide) (by decide) rfl rfl))) (jab_nil) rfl) (by decide) (by decide) rfl rfl) (by first | rfl | exact sw_false_name | decide)) (fun _ _ _ h => h))
      (jss_cons (js_asg (ps_set (i := 9) scN.nd rfl (by first | exact Or.inl rfl | exact Or.inr rfl) (jx_cmp (op_neU hu64) (JE.b (JX.frz (jx_own C__law_able (hr.mono (by decide)) tk rfl (jab_cons (JE.b (JX.frz (jx_ix (ix_U hu1) (jb_rd (pv 4)) (jb_rd (pv 7)) (fun _ _ => rfl)))) (jab_cons (JE.b (JX.frz (jx_var (pv 8)))) (jab_nil) rfl) rfl) (blS (blS bl0)) (by decide) rfl rfl))) (JE.b (JX.frz (jx_cmp (op_eqU hu64) (JE.b (JX.frz (jx_own C__law_take (hr.mono (by decide)) tk rfl (jab_cons (jb_rd (pv 0)) (jab_cons (JE.b (JX.frz (jx_int))) (jab_nil) rfl) rfl) (blS (blS bl0)) (by decide) rfl rfl))) (JE.b (JX.frz (jx_int))) rfl))) rfl) (by first | rfl | exact sw_false_name | decide)) (fun _ _ _ h => h))
      (jss_one (js_expr (jx_meth PySem.F.slot_list_append PySem.F.type_list_append mo_append (pv 5) (ja_cons (JX.frz (jx_tup (ja_cons (JX.frz (jx_var (pv 8))) (ja_cons (JX.frz (jx_var (pv 7))) (ja_cons (JX.frz (jx_var (pv 9))) (ja_nil) rfl) rfl) rfl))) (ja_nil) rfl) rfl rfl rfl rfl rfl) rfl))))) (fun _ => rfl))
      (jss_one (js_ret (jx_callTy (cr_tupleU rfl) rfl B.tuple boot_tuple (jab_cons (jb_rd (pv 5)) (jab_nil) rfl) (by decide) (by decide) rfl rfl))))
/-! _law_best -/
def N__law_best : List Str := ["_law_tags_here", "_law_places_in", "_law_low_so", "_law_found", "_law_tag", "_law_fine", "_law_lots", "_law_rows", "_law_own", "_law_lot"]
theorem sc__law_best : FnScope N__law_best ["_law_tags_here", "_law_places_in", "_law_low_so"] (defScope (top 32)) := ⟨rfl, rfl, rfl, by decide +kernel, rfl, by decide +kernel, by decide +kernel⟩
def f__law_best : T → SR :=
  sSeq (sSet 3 (sLst (sNil))) (sSeq (sFor (sItems (frz (sVar 0))) (gNm 4) (sSeq (sSet 5 (sCall den__law_fit_needs (sBCons (toB (frz (sVar 0))) (sBCons (toB (frz (sVar 1))) (sBCons (toB (frz (sVar 4))) (sBNil)))))) (sSeq (sSet 6 (sCall den__law_sets (sBCons (toB (frz (sLc (sItems (frz (sVar 0))) (gNm 8) (sTB (sOp2 (gEq true) (sRd 8) (sRd 4))) (frz (sVar 8)) [8]))) (sBNil)))) (sSeq (sSet 7 (sCB (g1 gSorted) (sBCons (toB (frz (sLc (sItems (frz (sVar 5))) (gNm 8) (fun τ => .ok true τ) (frz (sTup (sCons (frz (sCB (g1 gLen) (sBCons (toB (frz (sLc (sItems (frz (sVar 6))) (gNm 9) (sTru (toB (frz (sCall den__law_able (sBCons (toB (frz (sVar 8))) (sBCons (toB (frz (sVar 9))) (sBNil))))))) (frz (sVar 9)) [9]))) (sBNil)))) (sCons (frz (sVar 8)) (sNil))))) [8]))) (sBNil)))) (sDrop (sMeth 3 mAppend (sCons (frz (sTup (sCons (frz (sVar 4)) (sCons (frz (sOp2 gIx (toB (frz (sOp2 gIx (sRd 7) (toB (frz (sIte (sTru (sRd 2)) (sC (.int 0)) (sNeg (frz (sC (.int 1)))))))))) (toB (frz (sC (.int 1)))))) (sNil))))) (sNil)))))))) (sRet (sCB (g1 gTuple) (sBCons (sRd 3) (sBNil)))))
def den__law_best : List Sl → DR := run 7 f__law_best
def c0__law_best : D → T → Rs (Option D) :=
  turnC (gNm 8) (sTB (sOp2 (gEq true) (sRd 8) (sRd 4))) (frz (sVar 8)) [8]
def c1__law_best : D → T → Rs (Option D) :=
  turnC (gNm 9) (sTru (toB (frz (sCall den__law_able (sBCons (toB (frz (sVar 8))) (sBCons (toB (frz (sVar 9))) (sBNil))))))) (frz (sVar 9)) [9]
def c2__law_best : D → T → Rs (Option D) :=
  turnC (gNm 8) (fun τ => .ok true τ) (frz (sTup (sCons (frz (sCB (g1 gLen) (sBCons (toB (frz (sLcB (sItems (frz (sVar 6))) c1__law_best [9]))) (sBNil)))) (sCons (frz (sVar 8)) (sNil))))) [8]
def b0__law_best : D → T → SR :=
  sBody (gNm 4) (sSeq (sSet 5 (sCall den__law_fit_needs (sBCons (toB (frz (sVar 0))) (sBCons (toB (frz (sVar 1))) (sBCons (toB (frz (sVar 4))) (sBNil)))))) (sSeq (sSet 6 (sCall den__law_sets (sBCons (toB (frz (sLcB (sItems (frz (sVar 0))) c0__law_best [8]))) (sBNil)))) (sSeq (sSet 7 (sCB (g1 gSorted) (sBCons (toB (frz (sLcB (sItems (frz (sVar 5))) c2__law_best [8]))) (sBNil)))) (sDrop (sMeth 3 mAppend (sCons (frz (sTup (sCons (frz (sVar 4)) (sCons (frz (sOp2 gIx (toB (frz (sOp2 gIx (sRd 7) (toB (frz (sIte (sTru (sRd 2)) (sC (.int 0)) (sNeg (frz (sC (.int 1)))))))))) (toB (frz (sC (.int 1)))))) (sNil))))) (sNil)))))))
theorem nE__law_best : f__law_best = (sSeq (sSet 3 (sLst (sNil))) (sSeq (sForB (sItems (frz (sVar 0))) b0__law_best) (sRet (sCB (g1 gTuple) (sBCons (sRd 3) (sBNil)))))) := rfl
theorem ok__law_best (B : Blt mg) (D__law_best : DefOk K mg "_law_best" (top 32) ["_law_tags_here", "_law_places_in", "_law_low_so"]) (C__law_fit_needs : Callee P w K mg base px "_law_fit_needs" (defArgs (top 30)) ["_law_tags_here", "_law_places_in", "_law_tag"] 3 den__law_fit_needs) (C__law_sets : Callee P w K mg base px "_law_sets" (defArgs (top 27)) ["_law_tags_here"] 1 den__law_sets) (C__law_able : Callee P w K mg base px "_law_able" (defArgs (top 26)) ["_law_needs_so", "_law_up_so"] 1 den__law_able) : Callee P w K mg base px "_law_best" (defArgs (top 32)) ["_law_tags_here", "_law_places_in", "_law_low_so"] 4 den__law_best := by
  have scN := sc__law_best
  refine callee (k := 3) (m := 7) (g := f__law_best) D__law_best sc__law_best rfl fun f cdv A outer s H E hr tk po => ?_
  have hu64 := hr.units
  have hu65 : (A.deeper (envOfC "_law_best" (defScope (top 32)) s.heap.objs.size f cdv)).units + 65 < cLine := by have := hr.un; omega
  have hu1 : (A.deeper (envOfC "_law_best" (defScope (top 32)) s.heap.objs.size f cdv)).units + 1 < cLine := by have := hr.un; omega
  exact jss_cons (js_asg (ps_set (i := 3) scN.nd rfl (by first | exact Or.inl rfl | exact Or.inr rfl) (jx_lst (ja_nil)) (by first | rfl | exact sw_false_name | decide)) (fun _ _ _ h => h))
      (jss_cons (js_for (gs := [4]) po rfl (ji_any (JX.frz (jx_var (pv 0)))) (jg_name (pg_name (i := 4) scN.nd rfl (by first | exact Or.inl rfl | exact Or.inr rfl)) (by decide)) (jss_cons (js_asg (ps_set (i := 5) scN.nd rfl (by first | exact Or.inl rfl | exact Or.inr rfl) (jx_own C__law_fit_needs (hr.mono (by decide)) tk rfl (jab_cons (JE.b (JX.frz (jx_var (pv 0)))) (jab_cons (JE.b (JX.frz (jx_var (pv 1)))) (jab_cons (JE.b (JX.frz (jx_var (pv 4)))) (jab_nil) rfl) rfl) rfl) (blS (blS (blS bl0))) (by decide) rfl rfl) (by first | rfl | exact sw_false_name | decide)) (fun _ _ _ h => h))
      (jss_cons (js_asg (ps_set (i := 6) scN.nd rfl (by first | exact Or.inl rfl | exact Or.inr rfl) (jx_own C__law_sets (hr.mono (by decide)) tk rfl (jab_cons (JE.b (JX.frz (jx_lc (own := [("_law_own", 8)]) rfl scN.nd (ji_any (JX.frz (jx_var (pv 0)))) (blkOk_by (own := [("_law_own", 8)]) (N := N__law_best) (by kernel_rfl)) (fun _ _ _ _ _ => jg_name (pg_name (i := 8) scN.nd rfl (by first | exact Or.inl rfl | exact Or.inr rfl)) (by decide)) (fun _ _ _ _ _ => jts_one (jt_cmp (op_neU hu64) (jb_rd (pv 8)) (jb_rd (pv 4)) rfl)) (fun _ _ _ _ _ => JX.frz (jx_var (pv 8))) (fun _ => rfl)))) (jab_nil) rfl) (blS bl0) (by decide) rfl rfl) (by first | rfl | exact sw_false_name | decide)) (fun _ _ _ h => h))
      (jss_cons (js_asg (ps_set (i := 7) scN.nd rfl (by first | exact Or.inl rfl | exact Or.inr rfl) (jx_callB (cr_sortedU hu64) rfl B.sorted boot_sorted (jab_cons (JE.b (JX.frz (jx_lc (own := [("_law_own", 8)]) rfl scN.nd (ji_any (JX.frz (jx_var (pv 5)))) (blkOk_by (own := [("_law_own", 8)]) (N := N__law_best) (by kernel_rfl)) (fun _ _ _ _ _ => jg_name (pg_name (i := 8) scN.nd rfl (by first | exact Or.inl rfl | exact Or.inr rfl)) (by decide)) (fun _ _ _ _ _ => jts_nil) (fun _ _ _ _ _ => JX.frz (jx_tup (ja_cons (JX.frz (jx_callB cr_lenU rfl B.len boot_len (jab_cons (JE.b (JX.frz (jx_lc (own := [("_law_lot", 9)]) rfl scN.nd (ji_any (JX.frz (jx_var (pv 6)))) (blkOk_by (own := [("_law_lot", 9)]) (N := N__law_best) (by kernel_rfl)) (fun _ _ _ _ _ => jg_name (pg_name (i := 9) scN.nd rfl (by first | exact Or.inl rfl | exact Or.inr rfl)) (by decide)) (fun _ _ _ _ _ => jts_one (jt_truth (JE.b (JX.frz (jx_own C__law_able (hr.mono (by decide)) takes0 rfl (jab_cons (JE.b (JX.frz (jx_var (pv 8)))) (jab_cons (JE.b (JX.frz (jx_var (pv 9)))) (jab_nil) rfl) rfl) (blS (blS bl0)) (by decide) rfl rfl))) (fun _ => rfl))) (fun _ _ _ _ _ => JX.frz (jx_var (pv 9))) (fun _ => rfl)))) (jab_nil) rfl) (by decide) (by decide) rfl rfl)) (ja_cons (JX.frz (jx_var (pv 8))) (ja_nil) rfl) rfl))) (fun _ => rfl)))) (jab_nil) rfl) (by decide) (by decide) rfl rfl) (by first | rfl | exact sw_false_name | decide)) (fun _ _ _ h => h))
      (jss_one (js_expr (jx_meth PySem.F.slot_list_append PySem.F.type_list_append mo_append (pv 3) (ja_cons (JX.frz (jx_tup (ja_cons (JX.frz (jx_var (pv 4))) (ja_cons (JX.frz (jx_ix (ix_U hu1) (JE.b (JX.frz (jx_ix (ix_U hu1) (jb_rd (pv 7)) (JE.b (JX.frz (jx_ife (jt_truth (jb_rd (pv 2)) (fun _ => rfl)) (jx_int) (jx_neg (JX.frz (jx_int)))))) (fun _ _ => rfl)))) (JE.b (JX.frz (jx_int))) (fun _ _ => rfl))) (ja_nil) rfl) rfl))) (ja_nil) rfl) rfl rfl rfl rfl rfl) rfl))))) (fun _ => rfl))
      (jss_one (js_ret (jx_callTy (cr_tupleU rfl) rfl B.tuple boot_tuple (jab_cons (jb_rd (pv 3)) (jab_nil) rfl) (by decide) (by decide) rfl rfl))))
/-! _law_case_right -/
def N__law_case_right : List Str := ["_law_tags_here", "_law_places_in", "_law_soft", "_law_due", "_law_got", "_law_tag"]
theorem sc__law_case_right : FnScope N__law_case_right ["_law_tags_here", "_law_places_in"] (defScope (top 33)) := ⟨rfl, rfl, rfl, by decide +kernel, rfl, by decide +kernel, by decide +kernel⟩
def f__law_case_right : T → SR :=
  sSeq (sIfS (sNot (sTru (toB (frz (sCB (g1 gAll) (sBCons (toB (frz (sLc (sItems (frz (sVar 0))) (gNm 5) (fun τ => .ok true τ) (frz (sOp2 (gEq true) (toB (frz (sCall den__law_fit_needs (sBCons (toB (frz (sVar 0))) (sBCons (toB (frz (sVar 1))) (sBCons (toB (frz (sVar 5))) (sBNil))))))) (toB (frz (sLst (sNil)))))) [5]))) (sBNil))))))) (sRet (sC (.bl true))) (sNext)) (sSeq (sSet 2 (sCall (den__law_lists 12) (sBCons (toB (frz (sVar 1))) (sBNil)))) (sSeq (sSet 3 (sLst (sCons (frz (sCall den__law_best (sBCons (toB (frz (sVar 0))) (sBCons (toB (frz (sVar 1))) (sBCons (toB (frz (sC (.bl true)))) (sBNil)))))) (sCons (frz (sCall den__law_best (sBCons (toB (frz (sVar 0))) (sBCons (toB (frz (sVar 1))) (sBCons (toB (frz (sC (.bl false)))) (sBNil)))))) (sNil))))) (sSeq (sSet 4 (sLst (sCons (frz (sCall den_lowest_book (sBCons (toB (frz (sVar 0))) (sBCons (toB (frz (sVar 1))) (sBNil))))) (sCons (frz (sCall den_highest_book (sBCons (toB (frz (sVar 0))) (sBCons (toB (frz (sVar 1))) (sBNil))))) (sCons (frz (sCall den_lowest_book (sBCons (toB (frz (sCB (g1 gList) (sBCons (sRd 0) (sBNil))))) (sBCons (toB (frz (sVar 2))) (sBNil))))) (sCons (frz (sCall den_highest_book (sBCons (toB (frz (sCB (g1 gList) (sBCons (sRd 0) (sBNil))))) (sBCons (toB (frz (sVar 2))) (sBNil))))) (sNil))))))) (sSeq (sSet 4 (sOp2 gAdd (sRd 4) (toB (frz (sLst (sCons (frz (sCall den_lowest_book (sPick [1, 0] (sBCons (toB (frz (sVar 2))) (sBCons (toB (frz (sVar 0))) (sBNil)))))) (sCons (frz (sCall den_highest_book (sPick [1, 0] (sBCons (toB (frz (sVar 2))) (sBCons (toB (frz (sVar 0))) (sBNil)))))) (sNil)))))))) (sRet (sAndV (sCall (den__law_same 12) (sBCons (toB (frz (sVar 4))) (sBCons (toB (frz (sOp2 gMul (sRd 3) (toB (frz (sC (.int 3))))))) (sBNil)))) (sOp2 (gEq false) (sRd 2) (toB (frz (sCall (den__law_lists 12) (sBCons (toB (frz (sVar 1))) (sBNil))))))))))))
def den__law_case_right : List Sl → DR := run 4 f__law_case_right
def c0__law_case_right : D → T → Rs (Option D) :=
  turnC (gNm 5) (fun τ => .ok true τ) (frz (sOp2 (gEq true) (toB (frz (sCall den__law_fit_needs (sBCons (toB (frz (sVar 0))) (sBCons (toB (frz (sVar 1))) (sBCons (toB (frz (sVar 5))) (sBNil))))))) (toB (frz (sLst (sNil)))))) [5]
theorem nE__law_case_right : f__law_case_right = (sSeq (sIfS (sNot (sTru (toB (frz (sCB (g1 gAll) (sBCons (toB (frz (sLcB (sItems (frz (sVar 0))) c0__law_case_right [5]))) (sBNil))))))) (sRet (sC (.bl true))) (sNext)) (sSeq (sSet 2 (sCall (den__law_lists 12) (sBCons (toB (frz (sVar 1))) (sBNil)))) (sSeq (sSet 3 (sLst (sCons (frz (sCall den__law_best (sBCons (toB (frz (sVar 0))) (sBCons (toB (frz (sVar 1))) (sBCons (toB (frz (sC (.bl true)))) (sBNil)))))) (sCons (frz (sCall den__law_best (sBCons (toB (frz (sVar 0))) (sBCons (toB (frz (sVar 1))) (sBCons (toB (frz (sC (.bl false)))) (sBNil)))))) (sNil))))) (sSeq (sSet 4 (sLst (sCons (frz (sCall den_lowest_book (sBCons (toB (frz (sVar 0))) (sBCons (toB (frz (sVar 1))) (sBNil))))) (sCons (frz (sCall den_highest_book (sBCons (toB (frz (sVar 0))) (sBCons (toB (frz (sVar 1))) (sBNil))))) (sCons (frz (sCall den_lowest_book (sBCons (toB (frz (sCB (g1 gList) (sBCons (sRd 0) (sBNil))))) (sBCons (toB (frz (sVar 2))) (sBNil))))) (sCons (frz (sCall den_highest_book (sBCons (toB (frz (sCB (g1 gList) (sBCons (sRd 0) (sBNil))))) (sBCons (toB (frz (sVar 2))) (sBNil))))) (sNil))))))) (sSeq (sSet 4 (sOp2 gAdd (sRd 4) (toB (frz (sLst (sCons (frz (sCall den_lowest_book (sPick [1, 0] (sBCons (toB (frz (sVar 2))) (sBCons (toB (frz (sVar 0))) (sBNil)))))) (sCons (frz (sCall den_highest_book (sPick [1, 0] (sBCons (toB (frz (sVar 2))) (sBCons (toB (frz (sVar 0))) (sBNil)))))) (sNil)))))))) (sRet (sAndV (sCall (den__law_same 12) (sBCons (toB (frz (sVar 4))) (sBCons (toB (frz (sOp2 gMul (sRd 3) (toB (frz (sC (.int 3))))))) (sBNil)))) (sOp2 (gEq false) (sRd 2) (toB (frz (sCall (den__law_lists 12) (sBCons (toB (frz (sVar 1))) (sBNil))))))))))))) := rfl
theorem ok__law_case_right (B : Blt mg) (D__law_case_right : DefOk K mg "_law_case_right" (top 33) ["_law_tags_here", "_law_places_in"]) (C__law_fit_needs : Callee P w K mg base px "_law_fit_needs" (defArgs (top 30)) ["_law_tags_here", "_law_places_in", "_law_tag"] 3 den__law_fit_needs) (C__law_lists : Callee P w K mg base px "_law_lists" (defArgs (top 22)) ["_law_matter"] 12 (den__law_lists 12)) (C__law_best : Callee P w K mg base px "_law_best" (defArgs (top 32)) ["_law_tags_here", "_law_places_in", "_law_low_so"] 4 den__law_best) (C_highest_book : Callee P w K mg base px "highest_book" (defArgs (top 15)) ["names", "places"] 17 den_highest_book) (C_lowest_book : Callee P w K mg base px "lowest_book" (defArgs (top 13)) ["names", "places"] 17 den_lowest_book) (C__law_same : Callee P w K mg base px "_law_same" (defArgs (top 21)) ["_law_got", "_law_goal"] 12 (den__law_same 12)) : Callee P w K mg base px "_law_case_right" (defArgs (top 33)) ["_law_tags_here", "_law_places_in"] 18 den__law_case_right := by
  have scN := sc__law_case_right
  refine callee (k := 17) (m := 4) (g := f__law_case_right) D__law_case_right sc__law_case_right rfl fun f cdv A outer s H E hr tk po => ?_
  have hu64 := hr.units
  have hu65 : (A.deeper (envOfC "_law_case_right" (defScope (top 33)) s.heap.objs.size f cdv)).units + 65 < cLine := by have := hr.un; omega
  have hu1 : (A.deeper (envOfC "_law_case_right" (defScope (top 33)) s.heap.objs.size f cdv)).units + 1 < cLine := by have := hr.un; omega
  exact jss_cons (js_if (jt_not (jt_truth (JE.b (JX.frz (jx_callB (cr_allU rfl) rfl B.all boot_all (jab_cons (JE.b (JX.frz (jx_lc (own := [("_law_tag", 5)]) rfl scN.nd (ji_any (JX.frz (jx_var (pv 0)))) (blkOk_by (own := [("_law_tag", 5)]) (N := N__law_case_right) (by kernel_rfl)) (fun _ _ _ _ _ => jg_name (pg_name (i := 5) scN.nd rfl (by first | exact Or.inl rfl | exact Or.inr rfl)) (by decide)) (fun _ _ _ _ _ => jts_nil) (fun _ _ _ _ _ => JX.frz (jx_cmp (op_neU hu64) (JE.b (JX.frz (jx_own C__law_fit_needs (hr.mono (by decide)) takes0 rfl (jab_cons (JE.b (JX.frz (jx_var (pv 0)))) (jab_cons (JE.b (JX.frz (jx_var (pv 1)))) (jab_cons (JE.b (JX.frz (jx_var (pv 5)))) (jab_nil) rfl) rfl) rfl) (blS (blS (blS bl0))) (by decide) rfl rfl))) (JE.b (JX.frz (jx_lst (ja_nil)))) rfl)) (fun _ => rfl)))) (jab_nil) rfl) (by decide) (by decide) rfl rfl))) (fun _ => rfl))) (jss_one (js_ret (jx_bl))) (jss_nil))
      (jss_cons (js_asg (ps_set (i := 2) scN.nd rfl (by first | exact Or.inl rfl | exact Or.inr rfl) (jx_own C__law_lists (hr.mono (by decide)) tk rfl (jab_cons (JE.b (JX.frz (jx_var (pv 1)))) (jab_nil) rfl) (blS bl0) (by decide) rfl rfl) (by first | rfl | exact sw_false_name | decide)) (fun _ _ _ h => h))
      (jss_cons (js_asg (ps_set (i := 3) scN.nd rfl (by first | exact Or.inl rfl | exact Or.inr rfl) (jx_lst (ja_cons (JX.frz (jx_own C__law_best (hr.mono (by decide)) tk rfl (jab_cons (JE.b (JX.frz (jx_var (pv 0)))) (jab_cons (JE.b (JX.frz (jx_var (pv 1)))) (jab_cons (JE.b (JX.frz (jx_bl))) (jab_nil) rfl) rfl) rfl) (blS (blS (blS bl0))) (by decide) rfl rfl)) (ja_cons (JX.frz (jx_own C__law_best (hr.mono (by decide)) tk rfl (jab_cons (JE.b (JX.frz (jx_var (pv 0)))) (jab_cons (JE.b (JX.frz (jx_var (pv 1)))) (jab_cons (JE.b (JX.frz (jx_bl))) (jab_nil) rfl) rfl) rfl) (blS (blS (blS bl0))) (by decide) rfl rfl)) (ja_nil) rfl) rfl)) (by first | rfl | exact sw_false_name | decide)) (fun _ _ _ h => h))
      (jss_cons (js_asg (ps_set (i := 4) scN.nd rfl (by first | exact Or.inl rfl | exact Or.inr rfl) (jx_lst (ja_cons (JX.frz (jx_own C_lowest_book (hr.mono (by decide)) tk rfl (jab_cons (JE.b (JX.frz (jx_var (pv 0)))) (jab_cons (JE.b (JX.frz (jx_var (pv 1)))) (jab_nil) rfl) rfl) (blS (blS bl0)) (by decide) rfl rfl)) (ja_cons (JX.frz (jx_own C_highest_book (hr.mono (by decide)) tk rfl (jab_cons (JE.b (JX.frz (jx_var (pv 0)))) (jab_cons (JE.b (JX.frz (jx_var (pv 1)))) (jab_nil) rfl) rfl) (blS (blS bl0)) (by decide) rfl rfl)) (ja_cons (JX.frz (jx_own C_lowest_book (hr.mono (by decide)) tk rfl (jab_cons (JE.b (JX.frz (jx_callTy cr_listU rfl B.list boot_list (jab_cons (jb_rd (pv 0)) (jab_nil) rfl) (by decide) (by decide) rfl rfl))) (jab_cons (JE.b (JX.frz (jx_var (pv 2)))) (jab_nil) rfl) rfl) (blS (blS bl0)) (by decide) rfl rfl)) (ja_cons (JX.frz (jx_own C_highest_book (hr.mono (by decide)) tk rfl (jab_cons (JE.b (JX.frz (jx_callTy cr_listU rfl B.list boot_list (jab_cons (jb_rd (pv 0)) (jab_nil) rfl) (by decide) (by decide) rfl rfl))) (jab_cons (JE.b (JX.frz (jx_var (pv 2)))) (jab_nil) rfl) rfl) (blS (blS bl0)) (by decide) rfl rfl)) (ja_nil) rfl) rfl) rfl) rfl)) (by first | rfl | exact sw_false_name | decide)) (fun _ _ _ h => h))
      (jss_cons (js_asg (ps_set (i := 4) scN.nd rfl (by first | exact Or.inl rfl | exact Or.inr rfl) (jx_bin op_addU (jb_rd (pv 4)) (JE.b (JX.frz (jx_lst (ja_cons (JX.frz (jx_ownK (ks := ["places", "names"]) (is := [1, 0]) (m := 2) C_lowest_book (hr.mono (by decide)) tk rfl (jk_cons (JE.b (JX.frz (jx_var (pv 2)))) (jk_cons (JE.b (JX.frz (jx_var (pv 0)))) (jk_nil))) (fun _ _ _ _ _ _ _ _ ws hl => match ws, hl with | [_, _], _ => rfl) rfl (blS (blS bl0)) (blP (blS (blS bl0)) fun bs hl => match bs, hl with | [_, _], _ => rfl) rfl rfl (by decide) rfl)) (ja_cons (JX.frz (jx_ownK (ks := ["places", "names"]) (is := [1, 0]) (m := 2) C_highest_book (hr.mono (by decide)) tk rfl (jk_cons (JE.b (JX.frz (jx_var (pv 2)))) (jk_cons (JE.b (JX.frz (jx_var (pv 0)))) (jk_nil))) (fun _ _ _ _ _ _ _ _ ws hl => match ws, hl with | [_, _], _ => rfl) rfl (blS (blS bl0)) (blP (blS (blS bl0)) fun bs hl => match bs, hl with | [_, _], _ => rfl) rfl rfl (by decide) rfl)) (ja_nil) rfl) rfl))))) (by first | rfl | exact sw_false_name | decide)) (fun _ _ _ h => h))
      (jss_one (js_ret (jx_and (jx_own C__law_same (hr.mono (by decide)) tk rfl (jab_cons (JE.b (JX.frz (jx_var (pv 4)))) (jab_cons (JE.b (JX.frz (jx_bin op_mulU (jb_rd (pv 3)) (JE.b (JX.frz (jx_int)))))) (jab_nil) rfl) rfl) (blS (blS bl0)) (by decide) rfl rfl) (jx_one (jx_cmp (op_eqU hu64) (jb_rd (pv 2)) (JE.b (JX.frz (jx_own C__law_lists (hr.mono (by decide)) tk rfl (jab_cons (JE.b (JX.frz (jx_var (pv 1)))) (jab_nil) rfl) (blS bl0) (by decide) rfl rfl))) rfl)))))))))
/-! _law_by_hand_right -/
def N__law_by_hand_right : List Str := ["_law_tags_here", "_law_told", "_law_got", "_law_due", "_law_wide", "_law_far", "_law_some", "_law_own", "_law_tag"]
theorem sc__law_by_hand_right : FnScope N__law_by_hand_right [] (defScope (top 34)) := ⟨rfl, rfl, rfl, by decide +kernel, rfl, by decide +kernel, by decide +kernel⟩
def f__law_by_hand_right : T → SR :=
  sSeq (sUnp (gTp 2 (gN1 (gNm 0) (gN1 (gNm 1) (gN0)))) (frz (sTup (sCons (frz (sTup (sCons (frz (sC (.str [97]))) (sCons (frz (sC (.str [98]))) (sCons (frz (sC (.str [99]))) (sNil)))))) (sCons (frz (sTup (sCons (frz (sTup (sCons (frz (sTup (sNil))) (sCons (frz (sC (.str [99]))) (sCons (frz (sC (.bl false))) (sNil)))))) (sCons (frz (sTup (sCons (frz (sTup (sCons (frz (sC (.str [97]))) (sNil)))) (sCons (frz (sC (.str [99]))) (sCons (frz (sC (.bl true))) (sNil)))))) (sNil))))) (sNil)))))) (sSeq (sSet 2 (sLst (sCons (frz (sCall den_lowest_book (sBCons (toB (frz (sVar 0))) (sBCons (toB (frz (sVar 1))) (sBNil))))) (sCons (frz (sCall den_highest_book (sBCons (toB (frz (sVar 0))) (sBCons (toB (frz (sVar 1))) (sBNil))))) (sCons (frz (sCall den_lowest_book (sBCons (toB (frz (sVar 0))) (sBCons (toB (frz (sTup (sNil)))) (sBNil))))) (sCons (frz (sCall den_highest_book (sBCons (toB (frz (sVar 0))) (sBCons (toB (frz (sTup (sNil)))) (sBNil))))) (sCons (frz (sCall den_lowest_book (sBCons (toB (frz (sTup (sNil)))) (sBCons (toB (frz (sTup (sNil)))) (sBNil))))) (sCons (frz (sCall den_highest_book (sBCons (toB (frz (sTup (sNil)))) (sBCons (toB (frz (sTup (sNil)))) (sBNil))))) (sNil))))))))) (sSeq (sSet 3 (sLst (sCons (frz (sTup (sCons (frz (sTup (sCons (frz (sC (.str [97]))) (sCons (frz (sTup (sNil))) (sNil))))) (sCons (frz (sTup (sCons (frz (sC (.str [98]))) (sCons (frz (sTup (sNil))) (sNil))))) (sCons (frz (sTup (sCons (frz (sC (.str [99]))) (sCons (frz (sTup (sCons (frz (sTup (sCons (frz (sC (.str [97]))) (sNil)))) (sNil)))) (sNil))))) (sNil)))))) (sCons (frz (sTup (sCons (frz (sTup (sCons (frz (sC (.str [97]))) (sCons (frz (sTup (sCons (frz (sTup (sNil))) (sNil)))) (sNil))))) (sCons (frz (sTup (sCons (frz (sC (.str [98]))) (sCons (frz (sTup (sCons (frz (sTup (sNil))) (sNil)))) (sNil))))) (sCons (frz (sTup (sCons (frz (sC (.str [99]))) (sCons (frz (sTup (sCons (frz (sTup (sCons (frz (sC (.str [97]))) (sNil)))) (sCons (frz (sTup (sCons (frz (sC (.str [98]))) (sNil)))) (sNil))))) (sNil))))) (sNil)))))) (sNil))))) (sSeq (sSet 3 (sOp2 gAdd (sRd 3) (toB (frz (sLst (sCons (frz (sTup (sCons (frz (sTup (sCons (frz (sC (.str [97]))) (sCons (frz (sTup (sNil))) (sNil))))) (sCons (frz (sTup (sCons (frz (sC (.str [98]))) (sCons (frz (sTup (sNil))) (sNil))))) (sCons (frz (sTup (sCons (frz (sC (.str [99]))) (sCons (frz (sTup (sNil))) (sNil))))) (sNil)))))) (sCons (frz (sTup (sCons (frz (sTup (sCons (frz (sC (.str [97]))) (sCons (frz (sTup (sCons (frz (sTup (sNil))) (sNil)))) (sNil))))) (sCons (frz (sTup (sCons (frz (sC (.str [98]))) (sCons (frz (sTup (sCons (frz (sTup (sNil))) (sNil)))) (sNil))))) (sCons (frz (sTup (sCons (frz (sC (.str [99]))) (sCons (frz (sTup (sCons (frz (sTup (sNil))) (sNil)))) (sNil))))) (sNil)))))) (sCons (frz (sTup (sNil))) (sCons (frz (sTup (sNil))) (sNil)))))))))) (sSeq (sSet 1 (sTup (sCons (frz (sTup (sCons (frz (sTup (sCons (frz (sC (.str [97]))) (sCons (frz (sC (.str [98]))) (sNil))))) (sCons (frz (sC (.str [99]))) (sCons (frz (sC (.bl true))) (sNil)))))) (sCons (frz (sTup (sCons (frz (sTup (sCons (frz (sC (.str [97]))) (sNil)))) (sCons (frz (sC (.str [99]))) (sCons (frz (sC (.bl true))) (sNil)))))) (sCons (frz (sTup (sCons (frz (sTup (sCons (frz (sC (.str [98]))) (sNil)))) (sCons (frz (sC (.str [99]))) (sCons (frz (sC (.bl false))) (sNil)))))) (sCons (frz (sTup (sCons (frz (sTup (sNil))) (sCons (frz (sC (.str [99]))) (sCons (frz (sC (.bl false))) (sNil)))))) (sCons (frz (sTup (sCons (frz (sTup (sNil))) (sCons (frz (sC (.str [97]))) (sCons (frz (sC (.bl true))) (sNil)))))) (sCons (frz (sTup (sCons (frz (sTup (sCons (frz (sC (.str [99]))) (sNil)))) (sCons (frz (sC (.str [98]))) (sCons (frz (sC (.bl false))) (sNil)))))) (sNil))))))))) (sSeq (sSet 2 (sOp2 gAdd (sRd 2) (toB (frz (sLst (sCons (frz (sCall den_lowest_book (sBCons (toB (frz (sVar 0))) (sBCons (toB (frz (sVar 1))) (sBNil))))) (sCons (frz (sCall den_highest_book (sBCons (toB (frz (sVar 0))) (sBCons (toB (frz (sVar 1))) (sBNil))))) (sNil)))))))) (sSeq (sSet 3 (sOp2 gAdd (sRd 3) (toB (frz (sLst (sCons (frz (sTup (sCons (frz (sTup (sCons (frz (sC (.str [97]))) (sCons (frz (sTup (sCons (frz (sTup (sNil))) (sNil)))) (sNil))))) (sCons (frz (sTup (sCons (frz (sC (.str [98]))) (sCons (frz (sTup (sNil))) (sNil))))) (sCons (frz (sTup (sCons (frz (sC (.str [99]))) (sCons (frz (sTup (sCons (frz (sTup (sCons (frz (sC (.str [97]))) (sNil)))) (sNil)))) (sNil))))) (sNil)))))) (sCons (frz (sTup (sCons (frz (sTup (sCons (frz (sC (.str [97]))) (sCons (frz (sTup (sCons (frz (sTup (sNil))) (sNil)))) (sNil))))) (sCons (frz (sTup (sCons (frz (sC (.str [98]))) (sCons (frz (sTup (sCons (frz (sTup (sCons (frz (sC (.str [97]))) (sNil)))) (sNil)))) (sNil))))) (sCons (frz (sTup (sCons (frz (sC (.str [99]))) (sCons (frz (sTup (sCons (frz (sTup (sCons (frz (sC (.str [97]))) (sNil)))) (sNil)))) (sNil))))) (sNil)))))) (sNil)))))))) (sSeq (sSet 1 (sTup (sCons (frz (sTup (sCons (frz (sTup (sCons (frz (sC (.str [97]))) (sCons (frz (sC (.str [98]))) (sNil))))) (sCons (frz (sC (.str [99]))) (sCons (frz (sC (.bl false))) (sNil)))))) (sCons (frz (sTup (sCons (frz (sTup (sCons (frz (sC (.str [98]))) (sCons (frz (sC (.str [99]))) (sNil))))) (sCons (frz (sC (.str [97]))) (sCons (frz (sC (.bl false))) (sNil)))))) (sCons (frz (sTup (sCons (frz (sTup (sCons (frz (sC (.str [97]))) (sNil)))) (sCons (frz (sC (.str [98]))) (sCons (frz (sC (.bl false))) (sNil)))))) (sCons (frz (sTup (sCons (frz (sTup (sCons (frz (sC (.str [99]))) (sNil)))) (sCons (frz (sC (.str [98]))) (sCons (frz (sC (.bl false))) (sNil)))))) (sNil))))))) (sSeq (sSet 2 (sOp2 gAdd (sRd 2) (toB (frz (sLst (sCons (frz (sCall den_lowest_book (sBCons (toB (frz (sVar 0))) (sBCons (toB (frz (sVar 1))) (sBNil))))) (sCons (frz (sCall den_highest_book (sBCons (toB (frz (sVar 0))) (sBCons (toB (frz (sVar 1))) (sBNil))))) (sNil)))))))) (sSeq (sSet 3 (sOp2 gAdd (sRd 3) (toB (frz (sLst (sCons (frz (sTup (sCons (frz (sTup (sCons (frz (sC (.str [97]))) (sCons (frz (sTup (sNil))) (sNil))))) (sCons (frz (sTup (sCons (frz (sC (.str [98]))) (sCons (frz (sTup (sNil))) (sNil))))) (sCons (frz (sTup (sCons (frz (sC (.str [99]))) (sCons (frz (sTup (sNil))) (sNil))))) (sNil)))))) (sCons (frz (sTup (sCons (frz (sTup (sCons (frz (sC (.str [97]))) (sCons (frz (sTup (sNil))) (sNil))))) (sCons (frz (sTup (sCons (frz (sC (.str [98]))) (sCons (frz (sTup (sCons (frz (sTup (sCons (frz (sC (.str [97]))) (sCons (frz (sC (.str [99]))) (sNil))))) (sNil)))) (sNil))))) (sCons (frz (sTup (sCons (frz (sC (.str [99]))) (sCons (frz (sTup (sNil))) (sNil))))) (sNil)))))) (sNil)))))))) (sSeq (sSet 4 (sCB (g1 gTuple) (sBCons (toB (frz (sC (.str [97, 98, 99, 100, 101, 102, 103, 104])))) (sBNil)))) (sSeq (sSet 5 (sCB (g1 gTuple) (sBCons (toB (frz (sLc (sItems (frz (sSl (sRd 4) (sSmP (frz (sC (.int 1)))) (sNoP)))) (gNm 7) (fun τ => .ok true τ) (frz (sTup (sCons (frz (sCB (g1 gTuple) (sBCons (toB (frz (sLc (sItems (frz (sSl (sRd 4) (sSmP (frz (sC (.int 1)))) (sNoP)))) (gNm 8) (sTB (sOp2 (gEq true) (sRd 8) (sRd 7))) (frz (sVar 8)) [8]))) (sBNil)))) (sCons (frz (sC (.str [97]))) (sCons (frz (sC (.bl false))) (sNil)))))) [7]))) (sBNil)))) (sSeq (sSet 2 (sOp2 gAdd (sRd 2) (toB (frz (sLst (sCons (frz (sOp2 gIx (toB (frz (sCall den_highest_book (sBCons (toB (frz (sVar 4))) (sBCons (toB (frz (sVar 5))) (sBNil)))))) (toB (frz (sC (.int 0)))))) (sCons (frz (sOp2 gIx (toB (frz (sCall den_highest_book (sBCons (toB (frz (sVar 4))) (sBCons (toB (frz (sOp2 gMul (sRd 5) (toB (frz (sC (.int 5))))))) (sBNil)))))) (toB (frz (sC (.int 7)))))) (sCons (frz (sOp2 gIx (toB (frz (sCall den_lowest_book (sBCons (toB (frz (sVar 4))) (sBCons (toB (frz (sVar 5))) (sBNil)))))) (toB (frz (sC (.int 0)))))) (sNil))))))))) (sSeq (sSet 3 (sOp2 gAdd (sRd 3) (toB (frz (sLst (sCons (frz (sTup (sCons (frz (sC (.str [97]))) (sCons (frz (sTup (sCons (frz (sSl (sRd 4) (sSmP (frz (sC (.int 1)))) (sNoP))) (sNil)))) (sNil))))) (sCons (frz (sTup (sCons (frz (sC (.str [104]))) (sCons (frz (sTup (sCons (frz (sTup (sNil))) (sNil)))) (sNil))))) (sCons (frz (sTup (sCons (frz (sC (.str [97]))) (sCons (frz (sTup (sNil))) (sNil))))) (sNil))))))))) (sSeq (sDrop (sMeth 2 mAppend (sCons (frz (sOp2 gIx (toB (frz (sCall den_highest_book (sBCons (toB (frz (sCB (g1 gTuple) (sBCons (toB (frz (sC (.str [97, 98, 99, 100])))) (sBNil))))) (sBCons (toB (frz (sTup (sCons (frz (sTup (sCons (frz (sTup (sCons (frz (sC (.str [97]))) (sNil)))) (sCons (frz (sC (.str [100]))) (sCons (frz (sC (.bl false))) (sNil)))))) (sCons (frz (sTup (sCons (frz (sTup (sCons (frz (sC (.str [98]))) (sNil)))) (sCons (frz (sC (.str [100]))) (sCons (frz (sC (.bl false))) (sNil)))))) (sNil)))))) (sBNil)))))) (toB (frz (sC (.int 3)))))) (sNil)))) (sSeq (sDrop (sMeth 3 mAppend (sCons (frz (sTup (sCons (frz (sC (.str [100]))) (sCons (frz (sTup (sCons (frz (sTup (sCons (frz (sC (.str [97]))) (sCons (frz (sC (.str [98]))) (sNil))))) (sCons (frz (sTup (sCons (frz (sC (.str [99]))) (sNil)))) (sNil))))) (sNil))))) (sNil)))) (sSeq (sSet 5 (sTup (sCons (frz (sTup (sCons (frz (sTup (sCons (frz (sC (.str [100]))) (sCons (frz (sC (.str [101]))) (sCons (frz (sC (.str [102]))) (sCons (frz (sC (.str [103]))) (sCons (frz (sC (.str [104]))) (sNil)))))))) (sCons (frz (sC (.str [97]))) (sCons (frz (sC (.bl false))) (sNil)))))) (sCons (frz (sTup (sCons (frz (sTup (sCons (frz (sC (.str [98]))) (sCons (frz (sC (.str [99]))) (sCons (frz (sC (.str [102]))) (sCons (frz (sC (.str [103]))) (sCons (frz (sC (.str [104]))) (sNil)))))))) (sCons (frz (sC (.str [97]))) (sCons (frz (sC (.bl false))) (sNil)))))) (sNil))))) (sSeq (sDrop (sMeth 2 mAppend (sCons (frz (sOp2 gIx (toB (frz (sCall den_highest_book (sBCons (toB (frz (sVar 4))) (sBCons (toB (frz (sVar 5))) (sBNil)))))) (toB (frz (sC (.int 0)))))) (sNil)))) (sSeq (sDrop (sMeth 3 mAppend (sCons (frz (sTup (sCons (frz (sC (.str [97]))) (sCons (frz (sTup (sCons (frz (sTup (sCons (frz (sC (.str [98]))) (sCons (frz (sC (.str [100]))) (sNil))))) (sCons (frz (sTup (sCons (frz (sC (.str [98]))) (sCons (frz (sC (.str [101]))) (sNil))))) (sCons (frz (sTup (sCons (frz (sC (.str [99]))) (sCons (frz (sC (.str [100]))) (sNil))))) (sCons (frz (sTup (sCons (frz (sC (.str [99]))) (sCons (frz (sC (.str [101]))) (sNil))))) (sNil))))))) (sNil))))) (sNil)))) (sSeq (sSet 6 (sCB (g1 gTuple) (sBCons (toB (frz (sLc (sItems (frz (sSl (sRd 4) (sSmP (frz (sC (.int 1)))) (sNoP)))) (gNm 8) (fun τ => .ok true τ) (frz (sTup (sCons (frz (sTup (sCons (frz (sVar 8)) (sNil)))) (sCons (frz (sC (.str [97]))) (sCons (frz (sC (.bl true))) (sNil)))))) [8]))) (sBNil)))) (sSeq (sDrop (sMeth 2 mAppend (sCons (frz (sOp2 gIx (toB (frz (sCall den_lowest_book (sBCons (toB (frz (sVar 4))) (sBCons (toB (frz (sVar 6))) (sBNil)))))) (toB (frz (sC (.int 0)))))) (sNil)))) (sSeq (sDrop (sMeth 3 mAppend (sCons (frz (sTup (sCons (frz (sC (.str [97]))) (sCons (frz (sCB (g1 gTuple) (sBCons (toB (frz (sLc (sItems (frz (sSl (sRd 4) (sSmP (frz (sC (.int 1)))) (sNoP)))) (gNm 8) (fun τ => .ok true τ) (frz (sTup (sCons (frz (sVar 8)) (sNil)))) [8]))) (sBNil)))) (sNil))))) (sNil)))) (sRet (sAndV (sCall (den__law_same 12) (sBCons (toB (frz (sVar 2))) (sBCons (toB (frz (sVar 3))) (sBNil)))) (sCall den__law_case_right (sBCons (toB (frz (sVar 0))) (sBCons (toB (frz (sVar 1))) (sBNil)))))))))))))))))))))))))))
def den__law_by_hand_right : List Sl → DR := run 9 f__law_by_hand_right
def c0__law_by_hand_right : D → T → Rs (Option D) :=
  turnC (gNm 8) (sTB (sOp2 (gEq true) (sRd 8) (sRd 7))) (frz (sVar 8)) [8]
def c1__law_by_hand_right : D → T → Rs (Option D) :=
  turnC (gNm 7) (fun τ => .ok true τ) (frz (sTup (sCons (frz (sCB (g1 gTuple) (sBCons (toB (frz (sLcB (sItems (frz (sSl (sRd 4) (sSmP (frz (sC (.int 1)))) (sNoP)))) c0__law_by_hand_right [8]))) (sBNil)))) (sCons (frz (sC (.str [97]))) (sCons (frz (sC (.bl false))) (sNil)))))) [7]
def c2__law_by_hand_right : D → T → Rs (Option D) :=
  turnC (gNm 8) (fun τ => .ok true τ) (frz (sTup (sCons (frz (sTup (sCons (frz (sVar 8)) (sNil)))) (sCons (frz (sC (.str [97]))) (sCons (frz (sC (.bl true))) (sNil)))))) [8]
def c3__law_by_hand_right : D → T → Rs (Option D) :=
  turnC (gNm 8) (fun τ => .ok true τ) (frz (sTup (sCons (frz (sVar 8)) (sNil)))) [8]
theorem nE__law_by_hand_right : f__law_by_hand_right = (sSeq (sUnp (gTp 2 (gN1 (gNm 0) (gN1 (gNm 1) (gN0)))) (frz (sTup (sCons (frz (sTup (sCons (frz (sC (.str [97]))) (sCons (frz (sC (.str [98]))) (sCons (frz (sC (.str [99]))) (sNil)))))) (sCons (frz (sTup (sCons (frz (sTup (sCons (frz (sTup (sNil))) (sCons (frz (sC (.str [99]))) (sCons (frz (sC (.bl false))) (sNil)))))) (sCons (frz (sTup (sCons (frz (sTup (sCons (frz (sC (.str [97]))) (sNil)))) (sCons (frz (sC (.str [99]))) (sCons (frz (sC (.bl true))) (sNil)))))) (sNil))))) (sNil)))))) (sSeq (sSet 2 (sLst (sCons (frz (sCall den_lowest_book (sBCons (toB (frz (sVar 0))) (sBCons (toB (frz (sVar 1))) (sBNil))))) (sCons (frz (sCall den_highest_book (sBCons (toB (frz (sVar 0))) (sBCons (toB (frz (sVar 1))) (sBNil))))) (sCons (frz (sCall den_lowest_book (sBCons (toB (frz (sVar 0))) (sBCons (toB (frz (sTup (sNil)))) (sBNil))))) (sCons (frz (sCall den_highest_book (sBCons (toB (frz (sVar 0))) (sBCons (toB (frz (sTup (sNil)))) (sBNil))))) (sCons (frz (sCall den_lowest_book (sBCons (toB (frz (sTup (sNil)))) (sBCons (toB (frz (sTup (sNil)))) (sBNil))))) (sCons (frz (sCall den_highest_book (sBCons (toB (frz (sTup (sNil)))) (sBCons (toB (frz (sTup (sNil)))) (sBNil))))) (sNil))))))))) (sSeq (sSet 3 (sLst (sCons (frz (sTup (sCons (frz (sTup (sCons (frz (sC (.str [97]))) (sCons (frz (sTup (sNil))) (sNil))))) (sCons (frz (sTup (sCons (frz (sC (.str [98]))) (sCons (frz (sTup (sNil))) (sNil))))) (sCons (frz (sTup (sCons (frz (sC (.str [99]))) (sCons (frz (sTup (sCons (frz (sTup (sCons (frz (sC (.str [97]))) (sNil)))) (sNil)))) (sNil))))) (sNil)))))) (sCons (frz (sTup (sCons (frz (sTup (sCons (frz (sC (.str [97]))) (sCons (frz (sTup (sCons (frz (sTup (sNil))) (sNil)))) (sNil))))) (sCons (frz (sTup (sCons (frz (sC (.str [98]))) (sCons (frz (sTup (sCons (frz (sTup (sNil))) (sNil)))) (sNil))))) (sCons (frz (sTup (sCons (frz (sC (.str [99]))) (sCons (frz (sTup (sCons (frz (sTup (sCons (frz (sC (.str [97]))) (sNil)))) (sCons (frz (sTup (sCons (frz (sC (.str [98]))) (sNil)))) (sNil))))) (sNil))))) (sNil)))))) (sNil))))) (sSeq (sSet 3 (sOp2 gAdd (sRd 3) (toB (frz (sLst (sCons (frz (sTup (sCons (frz (sTup (sCons (frz (sC (.str [97]))) (sCons (frz (sTup (sNil))) (sNil))))) (sCons (frz (sTup (sCons (frz (sC (.str [98]))) (sCons (frz (sTup (sNil))) (sNil))))) (sCons (frz (sTup (sCons (frz (sC (.str [99]))) (sCons (frz (sTup (sNil))) (sNil))))) (sNil)))))) (sCons (frz (sTup (sCons (frz (sTup (sCons (frz (sC (.str [97]))) (sCons (frz (sTup (sCons (frz (sTup (sNil))) (sNil)))) (sNil))))) (sCons (frz (sTup (sCons (frz (sC (.str [98]))) (sCons (frz (sTup (sCons (frz (sTup (sNil))) (sNil)))) (sNil))))) (sCons (frz (sTup (sCons (frz (sC (.str [99]))) (sCons (frz (sTup (sCons (frz (sTup (sNil))) (sNil)))) (sNil))))) (sNil)))))) (sCons (frz (sTup (sNil))) (sCons (frz (sTup (sNil))) (sNil)))))))))) (sSeq (sSet 1 (sTup (sCons (frz (sTup (sCons (frz (sTup (sCons (frz (sC (.str [97]))) (sCons (frz (sC (.str [98]))) (sNil))))) (sCons (frz (sC (.str [99]))) (sCons (frz (sC (.bl true))) (sNil)))))) (sCons (frz (sTup (sCons (frz (sTup (sCons (frz (sC (.str [97]))) (sNil)))) (sCons (frz (sC (.str [99]))) (sCons (frz (sC (.bl true))) (sNil)))))) (sCons (frz (sTup (sCons (frz (sTup (sCons (frz (sC (.str [98]))) (sNil)))) (sCons (frz (sC (.str [99]))) (sCons (frz (sC (.bl false))) (sNil)))))) (sCons (frz (sTup (sCons (frz (sTup (sNil))) (sCons (frz (sC (.str [99]))) (sCons (frz (sC (.bl false))) (sNil)))))) (sCons (frz (sTup (sCons (frz (sTup (sNil))) (sCons (frz (sC (.str [97]))) (sCons (frz (sC (.bl true))) (sNil)))))) (sCons (frz (sTup (sCons (frz (sTup (sCons (frz (sC (.str [99]))) (sNil)))) (sCons (frz (sC (.str [98]))) (sCons (frz (sC (.bl false))) (sNil)))))) (sNil))))))))) (sSeq (sSet 2 (sOp2 gAdd (sRd 2) (toB (frz (sLst (sCons (frz (sCall den_lowest_book (sBCons (toB (frz (sVar 0))) (sBCons (toB (frz (sVar 1))) (sBNil))))) (sCons (frz (sCall den_highest_book (sBCons (toB (frz (sVar 0))) (sBCons (toB (frz (sVar 1))) (sBNil))))) (sNil)))))))) (sSeq (sSet 3 (sOp2 gAdd (sRd 3) (toB (frz (sLst (sCons (frz (sTup (sCons (frz (sTup (sCons (frz (sC (.str [97]))) (sCons (frz (sTup (sCons (frz (sTup (sNil))) (sNil)))) (sNil))))) (sCons (frz (sTup (sCons (frz (sC (.str [98]))) (sCons (frz (sTup (sNil))) (sNil))))) (sCons (frz (sTup (sCons (frz (sC (.str [99]))) (sCons (frz (sTup (sCons (frz (sTup (sCons (frz (sC (.str [97]))) (sNil)))) (sNil)))) (sNil))))) (sNil)))))) (sCons (frz (sTup (sCons (frz (sTup (sCons (frz (sC (.str [97]))) (sCons (frz (sTup (sCons (frz (sTup (sNil))) (sNil)))) (sNil))))) (sCons (frz (sTup (sCons (frz (sC (.str [98]))) (sCons (frz (sTup (sCons (frz (sTup (sCons (frz (sC (.str [97]))) (sNil)))) (sNil)))) (sNil))))) (sCons (frz (sTup (sCons (frz (sC (.str [99]))) (sCons (frz (sTup (sCons (frz (sTup (sCons (frz (sC (.str [97]))) (sNil)))) (sNil)))) (sNil))))) (sNil)))))) (sNil)))))))) (sSeq (sSet 1 (sTup (sCons (frz (sTup (sCons (frz (sTup (sCons (frz (sC (.str [97]))) (sCons (frz (sC (.str [98]))) (sNil))))) (sCons (frz (sC (.str [99]))) (sCons (frz (sC (.bl false))) (sNil)))))) (sCons (frz (sTup (sCons (frz (sTup (sCons (frz (sC (.str [98]))) (sCons (frz (sC (.str [99]))) (sNil))))) (sCons (frz (sC (.str [97]))) (sCons (frz (sC (.bl false))) (sNil)))))) (sCons (frz (sTup (sCons (frz (sTup (sCons (frz (sC (.str [97]))) (sNil)))) (sCons (frz (sC (.str [98]))) (sCons (frz (sC (.bl false))) (sNil)))))) (sCons (frz (sTup (sCons (frz (sTup (sCons (frz (sC (.str [99]))) (sNil)))) (sCons (frz (sC (.str [98]))) (sCons (frz (sC (.bl false))) (sNil)))))) (sNil))))))) (sSeq (sSet 2 (sOp2 gAdd (sRd 2) (toB (frz (sLst (sCons (frz (sCall den_lowest_book (sBCons (toB (frz (sVar 0))) (sBCons (toB (frz (sVar 1))) (sBNil))))) (sCons (frz (sCall den_highest_book (sBCons (toB (frz (sVar 0))) (sBCons (toB (frz (sVar 1))) (sBNil))))) (sNil)))))))) (sSeq (sSet 3 (sOp2 gAdd (sRd 3) (toB (frz (sLst (sCons (frz (sTup (sCons (frz (sTup (sCons (frz (sC (.str [97]))) (sCons (frz (sTup (sNil))) (sNil))))) (sCons (frz (sTup (sCons (frz (sC (.str [98]))) (sCons (frz (sTup (sNil))) (sNil))))) (sCons (frz (sTup (sCons (frz (sC (.str [99]))) (sCons (frz (sTup (sNil))) (sNil))))) (sNil)))))) (sCons (frz (sTup (sCons (frz (sTup (sCons (frz (sC (.str [97]))) (sCons (frz (sTup (sNil))) (sNil))))) (sCons (frz (sTup (sCons (frz (sC (.str [98]))) (sCons (frz (sTup (sCons (frz (sTup (sCons (frz (sC (.str [97]))) (sCons (frz (sC (.str [99]))) (sNil))))) (sNil)))) (sNil))))) (sCons (frz (sTup (sCons (frz (sC (.str [99]))) (sCons (frz (sTup (sNil))) (sNil))))) (sNil)))))) (sNil)))))))) (sSeq (sSet 4 (sCB (g1 gTuple) (sBCons (toB (frz (sC (.str [97, 98, 99, 100, 101, 102, 103, 104])))) (sBNil)))) (sSeq (sSet 5 (sCB (g1 gTuple) (sBCons (toB (frz (sLcB (sItems (frz (sSl (sRd 4) (sSmP (frz (sC (.int 1)))) (sNoP)))) c1__law_by_hand_right [7]))) (sBNil)))) (sSeq (sSet 2 (sOp2 gAdd (sRd 2) (toB (frz (sLst (sCons (frz (sOp2 gIx (toB (frz (sCall den_highest_book (sBCons (toB (frz (sVar 4))) (sBCons (toB (frz (sVar 5))) (sBNil)))))) (toB (frz (sC (.int 0)))))) (sCons (frz (sOp2 gIx (toB (frz (sCall den_highest_book (sBCons (toB (frz (sVar 4))) (sBCons (toB (frz (sOp2 gMul (sRd 5) (toB (frz (sC (.int 5))))))) (sBNil)))))) (toB (frz (sC (.int 7)))))) (sCons (frz (sOp2 gIx (toB (frz (sCall den_lowest_book (sBCons (toB (frz (sVar 4))) (sBCons (toB (frz (sVar 5))) (sBNil)))))) (toB (frz (sC (.int 0)))))) (sNil))))))))) (sSeq (sSet 3 (sOp2 gAdd (sRd 3) (toB (frz (sLst (sCons (frz (sTup (sCons (frz (sC (.str [97]))) (sCons (frz (sTup (sCons (frz (sSl (sRd 4) (sSmP (frz (sC (.int 1)))) (sNoP))) (sNil)))) (sNil))))) (sCons (frz (sTup (sCons (frz (sC (.str [104]))) (sCons (frz (sTup (sCons (frz (sTup (sNil))) (sNil)))) (sNil))))) (sCons (frz (sTup (sCons (frz (sC (.str [97]))) (sCons (frz (sTup (sNil))) (sNil))))) (sNil))))))))) (sSeq (sDrop (sMeth 2 mAppend (sCons (frz (sOp2 gIx (toB (frz (sCall den_highest_book (sBCons (toB (frz (sCB (g1 gTuple) (sBCons (toB (frz (sC (.str [97, 98, 99, 100])))) (sBNil))))) (sBCons (toB (frz (sTup (sCons (frz (sTup (sCons (frz (sTup (sCons (frz (sC (.str [97]))) (sNil)))) (sCons (frz (sC (.str [100]))) (sCons (frz (sC (.bl false))) (sNil)))))) (sCons (frz (sTup (sCons (frz (sTup (sCons (frz (sC (.str [98]))) (sNil)))) (sCons (frz (sC (.str [100]))) (sCons (frz (sC (.bl false))) (sNil)))))) (sNil)))))) (sBNil)))))) (toB (frz (sC (.int 3)))))) (sNil)))) (sSeq (sDrop (sMeth 3 mAppend (sCons (frz (sTup (sCons (frz (sC (.str [100]))) (sCons (frz (sTup (sCons (frz (sTup (sCons (frz (sC (.str [97]))) (sCons (frz (sC (.str [98]))) (sNil))))) (sCons (frz (sTup (sCons (frz (sC (.str [99]))) (sNil)))) (sNil))))) (sNil))))) (sNil)))) (sSeq (sSet 5 (sTup (sCons (frz (sTup (sCons (frz (sTup (sCons (frz (sC (.str [100]))) (sCons (frz (sC (.str [101]))) (sCons (frz (sC (.str [102]))) (sCons (frz (sC (.str [103]))) (sCons (frz (sC (.str [104]))) (sNil)))))))) (sCons (frz (sC (.str [97]))) (sCons (frz (sC (.bl false))) (sNil)))))) (sCons (frz (sTup (sCons (frz (sTup (sCons (frz (sC (.str [98]))) (sCons (frz (sC (.str [99]))) (sCons (frz (sC (.str [102]))) (sCons (frz (sC (.str [103]))) (sCons (frz (sC (.str [104]))) (sNil)))))))) (sCons (frz (sC (.str [97]))) (sCons (frz (sC (.bl false))) (sNil)))))) (sNil))))) (sSeq (sDrop (sMeth 2 mAppend (sCons (frz (sOp2 gIx (toB (frz (sCall den_highest_book (sBCons (toB (frz (sVar 4))) (sBCons (toB (frz (sVar 5))) (sBNil)))))) (toB (frz (sC (.int 0)))))) (sNil)))) (sSeq (sDrop (sMeth 3 mAppend (sCons (frz (sTup (sCons (frz (sC (.str [97]))) (sCons (frz (sTup (sCons (frz (sTup (sCons (frz (sC (.str [98]))) (sCons (frz (sC (.str [100]))) (sNil))))) (sCons (frz (sTup (sCons (frz (sC (.str [98]))) (sCons (frz (sC (.str [101]))) (sNil))))) (sCons (frz (sTup (sCons (frz (sC (.str [99]))) (sCons (frz (sC (.str [100]))) (sNil))))) (sCons (frz (sTup (sCons (frz (sC (.str [99]))) (sCons (frz (sC (.str [101]))) (sNil))))) (sNil))))))) (sNil))))) (sNil)))) (sSeq (sSet 6 (sCB (g1 gTuple) (sBCons (toB (frz (sLcB (sItems (frz (sSl (sRd 4) (sSmP (frz (sC (.int 1)))) (sNoP)))) c2__law_by_hand_right [8]))) (sBNil)))) (sSeq (sDrop (sMeth 2 mAppend (sCons (frz (sOp2 gIx (toB (frz (sCall den_lowest_book (sBCons (toB (frz (sVar 4))) (sBCons (toB (frz (sVar 6))) (sBNil)))))) (toB (frz (sC (.int 0)))))) (sNil)))) (sSeq (sDrop (sMeth 3 mAppend (sCons (frz (sTup (sCons (frz (sC (.str [97]))) (sCons (frz (sCB (g1 gTuple) (sBCons (toB (frz (sLcB (sItems (frz (sSl (sRd 4) (sSmP (frz (sC (.int 1)))) (sNoP)))) c3__law_by_hand_right [8]))) (sBNil)))) (sNil))))) (sNil)))) (sRet (sAndV (sCall (den__law_same 12) (sBCons (toB (frz (sVar 2))) (sBCons (toB (frz (sVar 3))) (sBNil)))) (sCall den__law_case_right (sBCons (toB (frz (sVar 0))) (sBCons (toB (frz (sVar 1))) (sBNil)))))))))))))))))))))))))))) := rfl
theorem ok__law_by_hand_right (B : Blt mg) (D__law_by_hand_right : DefOk K mg "_law_by_hand_right" (top 34) []) (C_highest_book : Callee P w K mg base px "highest_book" (defArgs (top 15)) ["names", "places"] 17 den_highest_book) (C_lowest_book : Callee P w K mg base px "lowest_book" (defArgs (top 13)) ["names", "places"] 17 den_lowest_book) (C__law_same : Callee P w K mg base px "_law_same" (defArgs (top 21)) ["_law_got", "_law_goal"] 12 (den__law_same 12)) (C__law_case_right : Callee P w K mg base px "_law_case_right" (defArgs (top 33)) ["_law_tags_here", "_law_places_in"] 18 den__law_case_right) : Callee P w K mg base px "_law_by_hand_right" (defArgs (top 34)) [] 19 den__law_by_hand_right := by
  have scN := sc__law_by_hand_right
  refine callee (k := 18) (m := 9) (g := f__law_by_hand_right) D__law_by_hand_right sc__law_by_hand_right rfl fun f cdv A outer s H E hr tk po => ?_
  have hu64 := hr.units
  have hu65 : (A.deeper (envOfC "_law_by_hand_right" (defScope (top 34)) s.heap.objs.size f cdv)).units + 65 < cLine := by have := hr.un; omega
  have hu1 : (A.deeper (envOfC "_law_by_hand_right" (defScope (top 34)) s.heap.objs.size f cdv)).units + 1 < cLine := by have := hr.un; omega
  exact jss_cons (js_unp (gs := [0, 1]) (jg_tup rfl (jgs_cons (jg_name (pg_name (i := 0) scN.nd rfl (by first | exact Or.inl rfl | exact Or.inr rfl)) (by decide)) (jgs_cons (jg_name (pg_name (i := 1) scN.nd rfl (by first | exact Or.inl rfl | exact Or.inr rfl)) (by decide)) (jgs_nil) rfl) rfl) rfl rfl) (JX.frz (jx_tup (ja_cons (JX.frz (jx_tup (ja_cons (JX.frz (jx_strE (by decide +kernel))) (ja_cons (JX.frz (jx_strE (by decide +kernel))) (ja_cons (JX.frz (jx_strE (by decide +kernel))) (ja_nil) rfl) rfl) rfl))) (ja_cons (JX.frz (jx_tup (ja_cons (JX.frz (jx_tup (ja_cons (JX.frz (jx_tup (ja_nil))) (ja_cons (JX.frz (jx_strE (by decide +kernel))) (ja_cons (JX.frz (jx_bl)) (ja_nil) rfl) rfl) rfl))) (ja_cons (JX.frz (jx_tup (ja_cons (JX.frz (jx_tup (ja_cons (JX.frz (jx_strE (by decide +kernel))) (ja_nil) rfl))) (ja_cons (JX.frz (jx_strE (by decide +kernel))) (ja_cons (JX.frz (jx_bl)) (ja_nil) rfl) rfl) rfl))) (ja_nil) rfl) rfl))) (ja_nil) rfl) rfl))) rfl rfl rfl)
      (jss_cons (js_asg (ps_set (i := 2) scN.nd rfl (by first | exact Or.inl rfl | exact Or.inr rfl) (jx_lst (ja_cons (JX.frz (jx_own C_lowest_book (hr.mono (by decide)) tk rfl (jab_cons (JE.b (JX.frz (jx_var (pv 0)))) (jab_cons (JE.b (JX.frz (jx_var (pv 1)))) (jab_nil) rfl) rfl) (blS (blS bl0)) (by decide) rfl rfl)) (ja_cons (JX.frz (jx_own C_highest_book (hr.mono (by decide)) tk rfl (jab_cons (JE.b (JX.frz (jx_var (pv 0)))) (jab_cons (JE.b (JX.frz (jx_var (pv 1)))) (jab_nil) rfl) rfl) (blS (blS bl0)) (by decide) rfl rfl)) (ja_cons (JX.frz (jx_own C_lowest_book (hr.mono (by decide)) tk rfl (jab_cons (JE.b (JX.frz (jx_var (pv 0)))) (jab_cons (JE.b (JX.frz (jx_tup (ja_nil)))) (jab_nil) rfl) rfl) (blS (blS bl0)) (by decide) rfl rfl)) (ja_cons (JX.frz (jx_own C_highest_book (hr.mono (by decide)) tk rfl (jab_cons (JE.b (JX.frz (jx_var (pv 0)))) (jab_cons (JE.b (JX.frz (jx_tup (ja_nil)))) (jab_nil) rfl) rfl) (blS (blS bl0)) (by decide) rfl rfl)) (ja_cons (JX.frz (jx_own C_lowest_book (hr.mono (by decide)) tk rfl (jab_cons (JE.b (JX.frz (jx_tup (ja_nil)))) (jab_cons (JE.b (JX.frz (jx_tup (ja_nil)))) (jab_nil) rfl) rfl) (blS (blS bl0)) (by decide) rfl rfl)) (ja_cons (JX.frz (jx_own C_highest_book (hr.mono (by decide)) tk rfl (jab_cons (JE.b (JX.frz (jx_tup (ja_nil)))) (jab_cons (JE.b (JX.frz (jx_tup (ja_nil)))) (jab_nil) rfl) rfl) (blS (blS bl0)) (by decide) rfl rfl)) (ja_nil) rfl) rfl) rfl) rfl) rfl) rfl)) (by first | rfl | exact sw_false_name | decide)) (fun _ _ _ h => h))
      (jss_cons (js_asg (ps_set (i := 3) scN.nd rfl (by first | exact Or.inl rfl | exact Or.inr rfl) (jx_lst (ja_cons (JX.frz (jx_tup (ja_cons (JX.frz (jx_tup (ja_cons (JX.frz (jx_strE (by decide +kernel))) (ja_cons (JX.frz (jx_tup (ja_nil))) (ja_nil) rfl) rfl))) (ja_cons (JX.frz (jx_tup (ja_cons (JX.frz (jx_strE (by decide +kernel))) (ja_cons (JX.frz (jx_tup (ja_nil))) (ja_nil) rfl) rfl))) (ja_cons (JX.frz (jx_tup (ja_cons (JX.frz (jx_strE (by decide +kernel))) (ja_cons (JX.frz (jx_tup (ja_cons (JX.frz (jx_tup (ja_cons (JX.frz (jx_strE (by decide +kernel))) (ja_nil) rfl))) (ja_nil) rfl))) (ja_nil) rfl) rfl))) (ja_nil) rfl) rfl) rfl))) (ja_cons (JX.frz (jx_tup (ja_cons (JX.frz (jx_tup (ja_cons (JX.frz (jx_strE (by decide +kernel))) (ja_cons (JX.frz (jx_tup (ja_cons (JX.frz (jx_tup (ja_nil))) (ja_nil) rfl))) (ja_nil) rfl) rfl))) (ja_cons (JX.frz (jx_tup (ja_cons (JX.frz (jx_strE (by decide +kernel))) (ja_cons (JX.frz (jx_tup (ja_cons (JX.frz (jx_tup (ja_nil))) (ja_nil) rfl))) (ja_nil) rfl) rfl))) (ja_cons (JX.frz (jx_tup (ja_cons (JX.frz (jx_strE (by decide +kernel))) (ja_cons (JX.frz (jx_tup (ja_cons (JX.frz (jx_tup (ja_cons (JX.frz (jx_strE (by decide +kernel))) (ja_nil) rfl))) (ja_cons (JX.frz (jx_tup (ja_cons (JX.frz (jx_strE (by decide +kernel))) (ja_nil) rfl))) (ja_nil) rfl) rfl))) (ja_nil) rfl) rfl))) (ja_nil) rfl) rfl) rfl))) (ja_nil) rfl) rfl)) (by first | rfl | exact sw_false_name | decide)) (fun _ _ _ h => h))
      (jss_cons (js_asg (ps_set (i := 3) scN.nd rfl (by first | exact Or.inl rfl | exact Or.inr rfl) (jx_bin op_addU (jb_rd (pv 3)) (JE.b (JX.frz (jx_lst (ja_cons (JX.frz (jx_tup (ja_cons (JX.frz (jx_tup (ja_cons (JX.frz (jx_strE (by decide +kernel))) (ja_cons (JX.frz (jx_tup (ja_nil))) (ja_nil) rfl) rfl))) (ja_cons (JX.frz (jx_tup (ja_cons (JX.frz (jx_strE (by decide +kernel))) (ja_cons (JX.frz (jx_tup (ja_nil))) (ja_nil) rfl) rfl))) (ja_cons (JX.frz (jx_tup (ja_cons (JX.frz (jx_strE (by decide +kernel))) (ja_cons (JX.frz (jx_tup (ja_nil))) (ja_nil) rfl) rfl))) (ja_nil) rfl) rfl) rfl))) (ja_cons (JX.frz (jx_tup (ja_cons (JX.frz (jx_tup (ja_cons (JX.frz (jx_strE (by decide +kernel))) (ja_cons (JX.frz (jx_tup (ja_cons (JX.frz (jx_tup (ja_nil))) (ja_nil) rfl))) (ja_nil) rfl) rfl))) (ja_cons (JX.frz (jx_tup (ja_cons (JX.frz (jx_strE (by decide +kernel))) (ja_cons (JX.frz (jx_tup (ja_cons (JX.frz (jx_tup (ja_nil))) (ja_nil) rfl))) (ja_nil) rfl) rfl))) (ja_cons (JX.frz (jx_tup (ja_cons (JX.frz (jx_strE (by decide +kernel))) (ja_cons (JX.frz (jx_tup (ja_cons (JX.frz (jx_tup (ja_nil))) (ja_nil) rfl))) (ja_nil) rfl) rfl))) (ja_nil) rfl) rfl) rfl))) (ja_cons (JX.frz (jx_tup (ja_nil))) (ja_cons (JX.frz (jx_tup (ja_nil))) (ja_nil) rfl) rfl) rfl) rfl))))) (by first | rfl | exact sw_false_name | decide)) (fun _ _ _ h => h))
      (jss_cons (js_asg (ps_set (i := 1) scN.nd rfl (by first | exact Or.inl rfl | exact Or.inr rfl) (jx_tup (ja_cons (JX.frz (jx_tup (ja_cons (JX.frz (jx_tup (ja_cons (JX.frz (jx_strE (by decide +kernel))) (ja_cons (JX.frz (jx_strE (by decide +kernel))) (ja_nil) rfl) rfl))) (ja_cons (JX.frz (jx_strE (by decide +kernel))) (ja_cons (JX.frz (jx_bl)) (ja_nil) rfl) rfl) rfl))) (ja_cons (JX.frz (jx_tup (ja_cons (JX.frz (jx_tup (ja_cons (JX.frz (jx_strE (by decide +kernel))) (ja_nil) rfl))) (ja_cons (JX.frz (jx_strE (by decide +kernel))) (ja_cons (JX.frz (jx_bl)) (ja_nil) rfl) rfl) rfl))) (ja_cons (JX.frz (jx_tup (ja_cons (JX.frz (jx_tup (ja_cons (JX.frz (jx_strE (by decide +kernel))) (ja_nil) rfl))) (ja_cons (JX.frz (jx_strE (by decide +kernel))) (ja_cons (JX.frz (jx_bl)) (ja_nil) rfl) rfl) rfl))) (ja_cons (JX.frz (jx_tup (ja_cons (JX.frz (jx_tup (ja_nil))) (ja_cons (JX.frz (jx_strE (by decide +kernel))) (ja_cons (JX.frz (jx_bl)) (ja_nil) rfl) rfl) rfl))) (ja_cons (JX.frz (jx_tup (ja_cons (JX.frz (jx_tup (ja_nil))) (ja_cons (JX.frz (jx_strE (by decide +kernel))) (ja_cons (JX.frz (jx_bl)) (ja_nil) rfl) rfl) rfl))) (ja_cons (JX.frz (jx_tup (ja_cons (JX.frz (jx_tup (ja_cons (JX.frz (jx_strE (by decide +kernel))) (ja_nil) rfl))) (ja_cons (JX.frz (jx_strE (by decide +kernel))) (ja_cons (JX.frz (jx_bl)) (ja_nil) rfl) rfl) rfl))) (ja_nil) rfl) rfl) rfl) rfl) rfl) rfl)) (by first | rfl | exact sw_false_name | decide)) (fun _ _ _ h => h))
      (jss_cons (js_asg (ps_set (i := 2) scN.nd rfl (by first | exact Or.inl rfl | exact Or.inr rfl) (jx_bin op_addU (jb_rd (pv 2)) (JE.b (JX.frz (jx_lst (ja_cons (JX.frz (jx_own C_lowest_book (hr.mono (by decide)) tk rfl (jab_cons (JE.b (JX.frz (jx_var (pv 0)))) (jab_cons (JE.b (JX.frz (jx_var (pv 1)))) (jab_nil) rfl) rfl) (blS (blS bl0)) (by decide) rfl rfl)) (ja_cons (JX.frz (jx_own C_highest_book (hr.mono (by decide)) tk rfl (jab_cons (JE.b (JX.frz (jx_var (pv 0)))) (jab_cons (JE.b (JX.frz (jx_var (pv 1)))) (jab_nil) rfl) rfl) (blS (blS bl0)) (by decide) rfl rfl)) (ja_nil) rfl) rfl))))) (by first | rfl | exact sw_false_name | decide)) (fun _ _ _ h => h))
      (jss_cons (js_asg (ps_set (i := 3) scN.nd rfl (by first | exact Or.inl rfl | exact Or.inr rfl) (jx_bin op_addU (jb_rd (pv 3)) (JE.b (JX.frz (jx_lst (ja_cons (JX.frz (jx_tup (ja_cons (JX.frz (jx_tup (ja_cons (JX.frz (jx_strE (by decide +kernel))) (ja_cons (JX.frz (jx_tup (ja_cons (JX.frz (jx_tup (ja_nil))) (ja_nil) rfl))) (ja_nil) rfl) rfl))) (ja_cons (JX.frz (jx_tup (ja_cons (JX.frz (jx_strE (by decide +kernel))) (ja_cons (JX.frz (jx_tup (ja_nil))) (ja_nil) rfl) rfl))) (ja_cons (JX.frz (jx_tup (ja_cons (JX.frz (jx_strE (by decide +kernel))) (ja_cons (JX.frz (jx_tup (ja_cons (JX.frz (jx_tup (ja_cons (JX.frz (jx_strE (by decide +kernel))) (ja_nil) rfl))) (ja_nil) rfl))) (ja_nil) rfl) rfl))) (ja_nil) rfl) rfl) rfl))) (ja_cons (JX.frz (jx_tup (ja_cons (JX.frz (jx_tup (ja_cons (JX.frz (jx_strE (by decide +kernel))) (ja_cons (JX.frz (jx_tup (ja_cons (JX.frz (jx_tup (ja_nil))) (ja_nil) rfl))) (ja_nil) rfl) rfl))) (ja_cons (JX.frz (jx_tup (ja_cons (JX.frz (jx_strE (by decide +kernel))) (ja_cons (JX.frz (jx_tup (ja_cons (JX.frz (jx_tup (ja_cons (JX.frz (jx_strE (by decide +kernel))) (ja_nil) rfl))) (ja_nil) rfl))) (ja_nil) rfl) rfl))) (ja_cons (JX.frz (jx_tup (ja_cons (JX.frz (jx_strE (by decide +kernel))) (ja_cons (JX.frz (jx_tup (ja_cons (JX.frz (jx_tup (ja_cons (JX.frz (jx_strE (by decide +kernel))) (ja_nil) rfl))) (ja_nil) rfl))) (ja_nil) rfl) rfl))) (ja_nil) rfl) rfl) rfl))) (ja_nil) rfl) rfl))))) (by first | rfl | exact sw_false_name | decide)) (fun _ _ _ h => h))
      (jss_cons (js_asg (ps_set (i := 1) scN.nd rfl (by first | exact Or.inl rfl | exact Or.inr rfl) (jx_tup (ja_cons (JX.frz (jx_tup (ja_cons (JX.frz (jx_tup (ja_cons (JX.frz (jx_strE (by decide +kernel))) (ja_cons (JX.frz (jx_strE (by decide +kernel))) (ja_nil) rfl) rfl))) (ja_cons (JX.frz (jx_strE (by decide +kernel))) (ja_cons (JX.frz (jx_bl)) (ja_nil) rfl) rfl) rfl))) (ja_cons (JX.frz (jx_tup (ja_cons (JX.frz (jx_tup (ja_cons (JX.frz (jx_strE (by decide +kernel))) (ja_cons (JX.frz (jx_strE (by decide +kernel))) (ja_nil) rfl) rfl))) (ja_cons (JX.frz (jx_strE (by decide +kernel))) (ja_cons (JX.frz (jx_bl)) (ja_nil) rfl) rfl) rfl))) (ja_cons (JX.frz (jx_tup (ja_cons (JX.frz (jx_tup (ja_cons (JX.frz (jx_strE (by decide +kernel))) (ja_nil) rfl))) (ja_cons (JX.frz (jx_strE (by decide +kernel))) (ja_cons (JX.frz (jx_bl)) (ja_nil) rfl) rfl) rfl))) (ja_cons (JX.frz (jx_tup (ja_cons (JX.frz (jx_tup (ja_cons (JX.frz (jx_strE (by decide +kernel))) (ja_nil) rfl))) (ja_cons (JX.frz (jx_strE (by decide +kernel))) (ja_cons (JX.frz (jx_bl)) (ja_nil) rfl) rfl) rfl))) (ja_nil) rfl) rfl) rfl) rfl)) (by first | rfl | exact sw_false_name | decide)) (fun _ _ _ h => h))
      (jss_cons (js_asg (ps_set (i := 2) scN.nd rfl (by first | exact Or.inl rfl | exact Or.inr rfl) (jx_bin op_addU (jb_rd (pv 2)) (JE.b (JX.frz (jx_lst (ja_cons (JX.frz (jx_own C_lowest_book (hr.mono (by decide)) tk rfl (jab_cons (JE.b (JX.frz (jx_var (pv 0)))) (jab_cons (JE.b (JX.frz (jx_var (pv 1)))) (jab_nil) rfl) rfl) (blS (blS bl0)) (by decide) rfl rfl)) (ja_cons (JX.frz (jx_own C_highest_book (hr.mono (by decide)) tk rfl (jab_cons (JE.b (JX.frz (jx_var (pv 0)))) (jab_cons (JE.b (JX.frz (jx_var (pv 1)))) (jab_nil) rfl) rfl) (blS (blS bl0)) (by decide) rfl rfl)) (ja_nil) rfl) rfl))))) (by first | rfl | exact sw_false_name | decide)) (fun _ _ _ h => h))
      (jss_cons (js_asg (ps_set (i := 3) scN.nd rfl (by first | exact Or.inl rfl | exact Or.inr rfl) (jx_bin op_addU (jb_rd (pv 3)) (JE.b (JX.frz (jx_lst (ja_cons (JX.frz (jx_tup (ja_cons (JX.frz (jx_tup (ja_cons (JX.frz (jx_strE (by decide +kernel))) (ja_cons (JX.frz (jx_tup (ja_nil))) (ja_nil) rfl) rfl))) (ja_cons (JX.frz (jx_tup (ja_cons (JX.frz (jx_strE (by decide +kernel))) (ja_cons (JX.frz (jx_tup (ja_nil))) (ja_nil) rfl) rfl))) (ja_cons (JX.frz (jx_tup (ja_cons (JX.frz (jx_strE (by decide +kernel))) (ja_cons (JX.frz (jx_tup (ja_nil))) (ja_nil) rfl) rfl))) (ja_nil) rfl) rfl) rfl))) (ja_cons (JX.frz (jx_tup (ja_cons (JX.frz (jx_tup (ja_cons (JX.frz (jx_strE (by decide +kernel))) (ja_cons (JX.frz (jx_tup (ja_nil))) (ja_nil) rfl) rfl))) (ja_cons (JX.frz (jx_tup (ja_cons (JX.frz (jx_strE (by decide +kernel))) (ja_cons (JX.frz (jx_tup (ja_cons (JX.frz (jx_tup (ja_cons (JX.frz (jx_strE (by decide +kernel))) (ja_cons (JX.frz (jx_strE (by decide +kernel))) (ja_nil) rfl) rfl))) (ja_nil) rfl))) (ja_nil) rfl) rfl))) (ja_cons (JX.frz (jx_tup (ja_cons (JX.frz (jx_strE (by decide +kernel))) (ja_cons (JX.frz (jx_tup (ja_nil))) (ja_nil) rfl) rfl))) (ja_nil) rfl) rfl) rfl))) (ja_nil) rfl) rfl))))) (by first | rfl | exact sw_false_name | decide)) (fun _ _ _ h => h))
      (jss_cons (js_asg (ps_set (i := 4) scN.nd rfl (by first | exact Or.inl rfl | exact Or.inr rfl) (jx_callTy (cr_tupleU rfl) rfl B.tuple boot_tuple (jab_cons (JE.b (JX.frz (jx_strE (by decide +kernel)))) (jab_nil) rfl) (by decide) (by decide) rfl rfl) (by first | rfl | exact sw_false_name | decide)) (fun _ _ _ h => h))
      (jss_cons (js_asg (ps_set (i := 5) scN.nd rfl (by first | exact Or.inl rfl | exact Or.inr rfl) (jx_callTy (cr_tupleU rfl) rfl B.tuple boot_tuple (jab_cons (JE.b (JX.frz (jx_lc (own := [("_law_own", 7)]) rfl scN.nd (ji_any (JX.frz (jx_sl (jb_rd (pv 4)) (jo_some (JX.frz (jx_int))) (jo_none)))) (blkOk_by (own := [("_law_own", 7)]) (N := N__law_by_hand_right) (by kernel_rfl)) (fun _ _ _ _ _ => jg_name (pg_name (i := 7) scN.nd rfl (by first | exact Or.inl rfl | exact Or.inr rfl)) (by decide)) (fun _ _ _ _ _ => jts_nil) (fun _ _ _ _ _ => JX.frz (jx_tup (ja_cons (JX.frz (jx_callTy (cr_tupleU rfl) rfl B.tuple boot_tuple (jab_cons (JE.b (JX.frz (jx_lc (own := [("_law_tag", 8)]) rfl scN.nd (ji_any (JX.frz (jx_sl (jb_rd (pv 4)) (jo_some (JX.frz (jx_int))) (jo_none)))) (blkOk_by (own := [("_law_tag", 8)]) (N := N__law_by_hand_right) (by kernel_rfl)) (fun _ _ _ _ _ => jg_name (pg_name (i := 8) scN.nd rfl (by first | exact Or.inl rfl | exact Or.inr rfl)) (by decide)) (fun _ _ _ _ _ => jts_one (jt_cmp (op_neU hu64) (jb_rd (pv 8)) (jb_rd (pv 7)) rfl)) (fun _ _ _ _ _ => JX.frz (jx_var (pv 8))) (fun _ => rfl)))) (jab_nil) rfl) (by decide) (by decide) rfl rfl)) (ja_cons (JX.frz (jx_strE (by decide +kernel))) (ja_cons (JX.frz (jx_bl)) (ja_nil) rfl) rfl) rfl))) (fun _ => rfl)))) (jab_nil) rfl) (by decide) (by decide) rfl rfl) (by first | rfl | exact sw_false_name | decide)) (fun _ _ _ h => h))
      (jss_cons (js_asg (ps_set (i := 2) scN.nd rfl (by first | exact Or.inl rfl | exact Or.inr rfl) (jx_bin op_addU (jb_rd (pv 2)) (JE.b (JX.frz (jx_lst (ja_cons (JX.frz (jx_ix (ix_U hu1) (JE.b (JX.frz (jx_own C_highest_book (hr.mono (by decide)) tk rfl (jab_cons (JE.b (JX.frz (jx_var (pv 4)))) (jab_cons (JE.b (JX.frz (jx_var (pv 5)))) (jab_nil) rfl) rfl) (blS (blS bl0)) (by decide) rfl rfl))) (JE.b (JX.frz (jx_int))) (fun _ _ => rfl))) (ja_cons (JX.frz (jx_ix (ix_U hu1) (JE.b (JX.frz (jx_own C_highest_book (hr.mono (by decide)) tk rfl (jab_cons (JE.b (JX.frz (jx_var (pv 4)))) (jab_cons (JE.b (JX.frz (jx_bin op_mulU (jb_rd (pv 5)) (JE.b (JX.frz (jx_int)))))) (jab_nil) rfl) rfl) (blS (blS bl0)) (by decide) rfl rfl))) (JE.b (JX.frz (jx_int))) (fun _ _ => rfl))) (ja_cons (JX.frz (jx_ix (ix_U hu1) (JE.b (JX.frz (jx_own C_lowest_book (hr.mono (by decide)) tk rfl (jab_cons (JE.b (JX.frz (jx_var (pv 4)))) (jab_cons (JE.b (JX.frz (jx_var (pv 5)))) (jab_nil) rfl) rfl) (blS (blS bl0)) (by decide) rfl rfl))) (JE.b (JX.frz (jx_int))) (fun _ _ => rfl))) (ja_nil) rfl) rfl) rfl))))) (by first | rfl | exact sw_false_name | decide)) (fun _ _ _ h => h))
      (jss_cons (js_asg (ps_set (i := 3) scN.nd rfl (by first | exact Or.inl rfl | exact Or.inr rfl) (jx_bin op_addU (jb_rd (pv 3)) (JE.b (JX.frz (jx_lst (ja_cons (JX.frz (jx_tup (ja_cons (JX.frz (jx_strE (by decide +kernel))) (ja_cons (JX.frz (jx_tup (ja_cons (JX.frz (jx_sl (jb_rd (pv 4)) (jo_some (JX.frz (jx_int))) (jo_none))) (ja_nil) rfl))) (ja_nil) rfl) rfl))) (ja_cons (JX.frz (jx_tup (ja_cons (JX.frz (jx_strE (by decide +kernel))) (ja_cons (JX.frz (jx_tup (ja_cons (JX.frz (jx_tup (ja_nil))) (ja_nil) rfl))) (ja_nil) rfl) rfl))) (ja_cons (JX.frz (jx_tup (ja_cons (JX.frz (jx_strE (by decide +kernel))) (ja_cons (JX.frz (jx_tup (ja_nil))) (ja_nil) rfl) rfl))) (ja_nil) rfl) rfl) rfl))))) (by first | rfl | exact sw_false_name | decide)) (fun _ _ _ h => h))
      (jss_cons (js_expr (jx_meth PySem.F.slot_list_append PySem.F.type_list_append mo_append (pv 2) (ja_cons (JX.frz (jx_ix (ix_U hu1) (JE.b (JX.frz (jx_own C_highest_book (hr.mono (by decide)) tk rfl (jab_cons (JE.b (JX.frz (jx_callTy (cr_tupleU rfl) rfl B.tuple boot_tuple (jab_cons (JE.b (JX.frz (jx_strE (by decide +kernel)))) (jab_nil) rfl) (by decide) (by decide) rfl rfl))) (jab_cons (JE.b (JX.frz (jx_tup (ja_cons (JX.frz (jx_tup (ja_cons (JX.frz (jx_tup (ja_cons (JX.frz (jx_strE (by decide +kernel))) (ja_nil) rfl))) (ja_cons (JX.frz (jx_strE (by decide +kernel))) (ja_cons (JX.frz (jx_bl)) (ja_nil) rfl) rfl) rfl))) (ja_cons (JX.frz (jx_tup (ja_cons (JX.frz (jx_tup (ja_cons (JX.frz (jx_strE (by decide +kernel))) (ja_nil) rfl))) (ja_cons (JX.frz (jx_strE (by decide +kernel))) (ja_cons (JX.frz (jx_bl)) (ja_nil) rfl) rfl) rfl))) (ja_nil) rfl) rfl)))) (jab_nil) rfl) rfl) (blS (blS bl0)) (by decide) rfl rfl))) (JE.b (JX.frz (jx_int))) (fun _ _ => rfl))) (ja_nil) rfl) rfl rfl rfl rfl rfl) rfl)
      (jss_cons (js_expr (jx_meth PySem.F.slot_list_append PySem.F.type_list_append mo_append (pv 3) (ja_cons (JX.frz (jx_tup (ja_cons (JX.frz (jx_strE (by decide +kernel))) (ja_cons (JX.frz (jx_tup (ja_cons (JX.frz (jx_tup (ja_cons (JX.frz (jx_strE (by decide +kernel))) (ja_cons (JX.frz (jx_strE (by decide +kernel))) (ja_nil) rfl) rfl))) (ja_cons (JX.frz (jx_tup (ja_cons (JX.frz (jx_strE (by decide +kernel))) (ja_nil) rfl))) (ja_nil) rfl) rfl))) (ja_nil) rfl) rfl))) (ja_nil) rfl) rfl rfl rfl rfl rfl) rfl)
      (jss_cons (js_asg (ps_set (i := 5) scN.nd rfl (by first | exact Or.inl rfl | exact Or.inr rfl) (jx_tup (ja_cons (JX.frz (jx_tup (ja_cons (JX.frz (jx_tup (ja_cons (JX.frz (jx_strE (by decide +kernel))) (ja_cons (JX.frz (jx_strE (by decide +kernel))) (ja_cons (JX.frz (jx_strE (by decide +kernel))) (ja_cons (JX.frz (jx_strE (by decide +kernel))) (ja_cons (JX.frz (jx_strE (by decide +kernel))) (ja_nil) rfl) rfl) rfl) rfl) rfl))) (ja_cons (JX.frz (jx_strE (by decide +kernel))) (ja_cons (JX.frz (jx_bl)) (ja_nil) rfl) rfl) rfl))) (ja_cons (JX.frz (jx_tup (ja_cons (JX.frz (jx_tup (ja_cons (JX.frz (jx_strE (by decide +kernel))) (ja_cons (JX.frz (jx_strE (by decide +kernel))) (ja_cons (JX.frz (jx_strE (by decide +kernel))) (ja_cons (JX.frz (jx_strE (by decide +kernel))) (ja_cons (JX.frz (jx_strE (by decide +kernel))) (ja_nil) rfl) rfl) rfl) rfl) rfl))) (ja_cons (JX.frz (jx_strE (by decide +kernel))) (ja_cons (JX.frz (jx_bl)) (ja_nil) rfl) rfl) rfl))) (ja_nil) rfl) rfl)) (by first | rfl | exact sw_false_name | decide)) (fun _ _ _ h => h))
      (jss_cons (js_expr (jx_meth PySem.F.slot_list_append PySem.F.type_list_append mo_append (pv 2) (ja_cons (JX.frz (jx_ix (ix_U hu1) (JE.b (JX.frz (jx_own C_highest_book (hr.mono (by decide)) tk rfl (jab_cons (JE.b (JX.frz (jx_var (pv 4)))) (jab_cons (JE.b (JX.frz (jx_var (pv 5)))) (jab_nil) rfl) rfl) (blS (blS bl0)) (by decide) rfl rfl))) (JE.b (JX.frz (jx_int))) (fun _ _ => rfl))) (ja_nil) rfl) rfl rfl rfl rfl rfl) rfl)
      (jss_cons (js_expr (jx_meth PySem.F.slot_list_append PySem.F.type_list_append mo_append (pv 3) (ja_cons (JX.frz (jx_tup (ja_cons (JX.frz (jx_strE (by decide +kernel))) (ja_cons (JX.frz (jx_tup (ja_cons (JX.frz (jx_tup (ja_cons (JX.frz (jx_strE (by decide +kernel))) (ja_cons (JX.frz (jx_strE (by decide +kernel))) (ja_nil) rfl) rfl))) (ja_cons (JX.frz (jx_tup (ja_cons (JX.frz (jx_strE (by decide +kernel))) (ja_cons (JX.frz (jx_strE (by decide +kernel))) (ja_nil) rfl) rfl))) (ja_cons (JX.frz (jx_tup (ja_cons (JX.frz (jx_strE (by decide +kernel))) (ja_cons (JX.frz (jx_strE (by decide +kernel))) (ja_nil) rfl) rfl))) (ja_cons (JX.frz (jx_tup (ja_cons (JX.frz (jx_strE (by decide +kernel))) (ja_cons (JX.frz (jx_strE (by decide +kernel))) (ja_nil) rfl) rfl))) (ja_nil) rfl) rfl) rfl) rfl))) (ja_nil) rfl) rfl))) (ja_nil) rfl) rfl rfl rfl rfl rfl) rfl)
      (jss_cons (js_asg (ps_set (i := 6) scN.nd rfl (by first | exact Or.inl rfl | exact Or.inr rfl) (jx_callTy (cr_tupleU rfl) rfl B.tuple boot_tuple (jab_cons (JE.b (JX.frz (jx_lc (own := [("_law_tag", 8)]) rfl scN.nd (ji_any (JX.frz (jx_sl (jb_rd (pv 4)) (jo_some (JX.frz (jx_int))) (jo_none)))) (blkOk_by (own := [("_law_tag", 8)]) (N := N__law_by_hand_right) (by kernel_rfl)) (fun _ _ _ _ _ => jg_name (pg_name (i := 8) scN.nd rfl (by first | exact Or.inl rfl | exact Or.inr rfl)) (by decide)) (fun _ _ _ _ _ => jts_nil) (fun _ _ _ _ _ => JX.frz (jx_tup (ja_cons (JX.frz (jx_tup (ja_cons (JX.frz (jx_var (pv 8))) (ja_nil) rfl))) (ja_cons (JX.frz (jx_strE (by decide +kernel))) (ja_cons (JX.frz (jx_bl)) (ja_nil) rfl) rfl) rfl))) (fun _ => rfl)))) (jab_nil) rfl) (by decide) (by decide) rfl rfl) (by first | rfl | exact sw_false_name | decide)) (fun _ _ _ h => h))
      (jss_cons (js_expr (jx_meth PySem.F.slot_list_append PySem.F.type_list_append mo_append (pv 2) (ja_cons (JX.frz (jx_ix (ix_U hu1) (JE.b (JX.frz (jx_own C_lowest_book (hr.mono (by decide)) tk rfl (jab_cons (JE.b (JX.frz (jx_var (pv 4)))) (jab_cons (JE.b (JX.frz (jx_var (pv 6)))) (jab_nil) rfl) rfl) (blS (blS bl0)) (by decide) rfl rfl))) (JE.b (JX.frz (jx_int))) (fun _ _ => rfl))) (ja_nil) rfl) rfl rfl rfl rfl rfl) rfl)
      (jss_cons (js_expr (jx_meth PySem.F.slot_list_append PySem.F.type_list_append mo_append (pv 3) (ja_cons (JX.frz (jx_tup (ja_cons (JX.frz (jx_strE (by decide +kernel))) (ja_cons (JX.frz (jx_callTy (cr_tupleU rfl) rfl B.tuple boot_tuple (jab_cons (JE.b (JX.frz (jx_lc (own := [("_law_tag", 8)]) rfl scN.nd (ji_any (JX.frz (jx_sl (jb_rd (pv 4)) (jo_some (JX.frz (jx_int))) (jo_none)))) (blkOk_by (own := [("_law_tag", 8)]) (N := N__law_by_hand_right) (by kernel_rfl)) (fun _ _ _ _ _ => jg_name (pg_name (i := 8) scN.nd rfl (by first | exact Or.inl rfl | exact Or.inr rfl)) (by decide)) (fun _ _ _ _ _ => jts_nil) (fun _ _ _ _ _ => JX.frz (jx_tup (ja_cons (JX.frz (jx_var (pv 8))) (ja_nil) rfl))) (fun _ => rfl)))) (jab_nil) rfl) (by decide) (by decide) rfl rfl)) (ja_nil) rfl) rfl))) (ja_nil) rfl) rfl rfl rfl rfl rfl) rfl)
      (jss_one (js_ret (jx_and (jx_own C__law_same (hr.mono (by decide)) tk rfl (jab_cons (JE.b (JX.frz (jx_var (pv 2)))) (jab_cons (JE.b (JX.frz (jx_var (pv 3)))) (jab_nil) rfl) rfl) (blS (blS bl0)) (by decide) rfl rfl) (jx_one (jx_own C__law_case_right (hr.mono (by decide)) tk rfl (jab_cons (JE.b (JX.frz (jx_var (pv 0)))) (jab_cons (JE.b (JX.frz (jx_var (pv 1)))) (jab_nil) rfl) rfl) (blS (blS bl0)) (by decide) rfl rfl))))))))))))))))))))))))))
/-! _law_right -/
def N__law_right : List Str := ["_law_urn", "_law_turn", "_law_tags_here"]
theorem sc__law_right : FnScope N__law_right ["_law_urn"] (defScope (top 35)) := ⟨rfl, rfl, rfl, by decide +kernel, rfl, by decide +kernel, by decide +kernel⟩
def f__law_right : T → SR :=
  sSeq (sFor (sRng1 (sCons (frz (sC (.int 8))) (sNil))) (gNm 1) (sSeq (sSet 2 (sCall den__law_tags (sBCons (sRd 0) (sBCons (toB (frz (sOp2 gAdd (toB (frz (sC (.int 1)))) (toB (frz (sCall den__law_take (sBCons (sRd 0) (sBCons (toB (frz (sC (.int 4)))) (sBNil))))))))) (sBNil))))) (sIfS (sNot (sTru (toB (frz (sCall den__law_case_right (sBCons (toB (frz (sVar 2))) (sBCons (toB (frz (sCall den__law_places (sBCons (sRd 0) (sBCons (toB (frz (sVar 2))) (sBCons (toB (frz (sCall den__law_book (sBCons (sRd 0) (sBCons (toB (frz (sVar 2))) (sBNil)))))) (sBCons (toB (frz (sCall den__law_take (sBCons (sRd 0) (sBCons (toB (frz (sC (.int 11)))) (sBNil)))))) (sBNil)))))))) (sBNil)))))))) (sRet (sC (.bl false))) (sNext)))) (sRet (sC (.bl true)))
def den__law_right : List Sl → DR := run 2 f__law_right
def b0__law_right : D → T → SR :=
  sBody (gNm 1) (sSeq (sSet 2 (sCall den__law_tags (sBCons (sRd 0) (sBCons (toB (frz (sOp2 gAdd (toB (frz (sC (.int 1)))) (toB (frz (sCall den__law_take (sBCons (sRd 0) (sBCons (toB (frz (sC (.int 4)))) (sBNil))))))))) (sBNil))))) (sIfS (sNot (sTru (toB (frz (sCall den__law_case_right (sBCons (toB (frz (sVar 2))) (sBCons (toB (frz (sCall den__law_places (sBCons (sRd 0) (sBCons (toB (frz (sVar 2))) (sBCons (toB (frz (sCall den__law_book (sBCons (sRd 0) (sBCons (toB (frz (sVar 2))) (sBNil)))))) (sBCons (toB (frz (sCall den__law_take (sBCons (sRd 0) (sBCons (toB (frz (sC (.int 11)))) (sBNil)))))) (sBNil)))))))) (sBNil)))))))) (sRet (sC (.bl false))) (sNext)))
theorem nE__law_right : f__law_right = (sSeq (sForB (sRng1 (sCons (frz (sC (.int 8))) (sNil))) b0__law_right) (sRet (sC (.bl true)))) := rfl
theorem ok__law_right (B : Blt mg) (D__law_right : DefOk K mg "_law_right" (top 35) ["_law_urn"]) (C__law_tags : Callee P w K mg base px "_law_tags" (defArgs (top 24)) ["_law_urn", "_law_size_so"] 3 den__law_tags) (C__law_take : Callee P w K mg base px "_law_take" (defArgs (top 18)) ["_law_urn", "_law_low_so"] 1 den__law_take) (C__law_case_right : Callee P w K mg base px "_law_case_right" (defArgs (top 33)) ["_law_tags_here", "_law_places_in"] 18 den__law_case_right) (C__law_places : Callee P w K mg base px "_law_places" (defArgs (top 31)) ["_law_urn", "_law_tags_here", "_law_host", "_law_many_so"] 3 den__law_places) (C__law_book : Callee P w K mg base px "_law_book" (defArgs (top 25)) ["_law_urn", "_law_tags_here"] 3 den__law_book) : Callee P w K mg base px "_law_right" (defArgs (top 35)) ["_law_urn"] 19 den__law_right := by
  have scN := sc__law_right
  refine callee (k := 18) (m := 2) (g := f__law_right) D__law_right sc__law_right rfl fun f cdv A outer s H E hr tk po => ?_
  have hu64 := hr.units
  have hu65 : (A.deeper (envOfC "_law_right" (defScope (top 35)) s.heap.objs.size f cdv)).units + 65 < cLine := by have := hr.un; omega
  have hu1 : (A.deeper (envOfC "_law_right" (defScope (top 35)) s.heap.objs.size f cdv)).units + 1 < cLine := by have := hr.un; omega
  exact jss_cons (js_for (gs := [1]) po rfl (ji_range1 rfl B.range (ja_cons (JX.frz (jx_int)) (ja_nil) rfl) rfl) (jg_name (pg_name (i := 1) scN.nd rfl (by first | exact Or.inl rfl | exact Or.inr rfl)) (by decide)) (jss_cons (js_asg (ps_set (i := 2) scN.nd rfl (by first | exact Or.inl rfl | exact Or.inr rfl) (jx_own C__law_tags (hr.mono (by decide)) tk rfl (jab_cons (jb_rd (pv 0)) (jab_cons (JE.b (JX.frz (jx_bin op_addU (JE.b (JX.frz (jx_int))) (JE.b (JX.frz (jx_own C__law_take (hr.mono (by decide)) tk rfl (jab_cons (jb_rd (pv 0)) (jab_cons (JE.b (JX.frz (jx_int))) (jab_nil) rfl) rfl) (blS (blS bl0)) (by decide) rfl rfl)))))) (jab_nil) rfl) rfl) (blS (blS bl0)) (by decide) rfl rfl) (by first | rfl | exact sw_false_name | decide)) (fun _ _ _ h => h))
      (jss_one (js_if (jt_not (jt_truth (JE.b (JX.frz (jx_own C__law_case_right (hr.mono (by decide)) tk rfl (jab_cons (JE.b (JX.frz (jx_var (pv 2)))) (jab_cons (JE.b (JX.frz (jx_own C__law_places (hr.mono (by decide)) tk rfl (jab_cons (jb_rd (pv 0)) (jab_cons (JE.b (JX.frz (jx_var (pv 2)))) (jab_cons (JE.b (JX.frz (jx_own C__law_book (hr.mono (by decide)) tk rfl (jab_cons (jb_rd (pv 0)) (jab_cons (JE.b (JX.frz (jx_var (pv 2)))) (jab_nil) rfl) rfl) (blS (blS bl0)) (by decide) rfl rfl))) (jab_cons (JE.b (JX.frz (jx_own C__law_take (hr.mono (by decide)) tk rfl (jab_cons (jb_rd (pv 0)) (jab_cons (JE.b (JX.frz (jx_int))) (jab_nil) rfl) rfl) (blS (blS bl0)) (by decide) rfl rfl))) (jab_nil) rfl) rfl) rfl) rfl) (blS (blS (blS (blS bl0)))) (by decide) rfl rfl))) (jab_nil) rfl) rfl) (blS (blS bl0)) (by decide) rfl rfl))) (fun _ => rfl))) (jss_one (js_ret (jx_bl))) (jss_nil)))) (fun _ => rfl))
      (jss_one (js_ret (jx_bl)))
/-! law -/
def N_law : List Str := ["_law_script", "_law_cells_here", "_law_k"]
theorem sc_law : FnScope N_law ["_law_script"] (defScope (top 36)) := ⟨rfl, rfl, rfl, by decide +kernel, rfl, by decide +kernel, by decide +kernel⟩
def f_law : T → SR :=
  sSeq (sIfS (sNot (sTru (toB (frz (sCall den__law_by_hand_right sBNil))))) (sRet (sC (.bl false))) (sNext)) (sSeq (sSet 1 (sCall den__law_cells (sBCons (toB (frz (sVar 0))) (sBCons (toB (frz (sC (.int 3)))) (sBNil))))) (sRet (sCB (g1 gAll) (sBCons (toB (frz (sLc (sRng1 (sCons (frz (sCB (g1 gLen) (sBCons (sRd 1) (sBNil)))) (sNil))) (gNm 2) (fun τ => .ok true τ) (frz (sCallF den__law_right (sCall den__law_box (sBCons (toB (frz (sVar 1))) (sBCons (toB (frz (sVar 2))) (sBNil)))))) [2]))) (sBNil)))))
def den_law : List Sl → DR := run 2 f_law
def c0_law : D → T → Rs (Option D) :=
  turnC (gNm 2) (fun τ => .ok true τ) (frz (sCallF den__law_right (sCall den__law_box (sBCons (toB (frz (sVar 1))) (sBCons (toB (frz (sVar 2))) (sBNil)))))) [2]
theorem nE_law : f_law = (sSeq (sIfS (sNot (sTru (toB (frz (sCall den__law_by_hand_right sBNil))))) (sRet (sC (.bl false))) (sNext)) (sSeq (sSet 1 (sCall den__law_cells (sBCons (toB (frz (sVar 0))) (sBCons (toB (frz (sC (.int 3)))) (sBNil))))) (sRet (sCB (g1 gAll) (sBCons (toB (frz (sLcB (sRng1 (sCons (frz (sCB (g1 gLen) (sBCons (sRd 1) (sBNil)))) (sNil))) c0_law [2]))) (sBNil)))))) := rfl
theorem ok_law {f : Addr} {fd : FuncData} (B : Blt mg) (F_law : FunD K "law" "law" (defArgs (top 36)) (defBody (top 36)) (defScope (top 36)) [] [] f fd) (C__law_by_hand_right : Callee P w K mg base px "_law_by_hand_right" (defArgs (top 34)) [] 19 den__law_by_hand_right) (C__law_cells : Callee P w K mg base px "_law_cells" (defArgs (top 19)) ["_law_script", "_law_top"] 1 den__law_cells) (C__law_right : Callee P w K mg base px "_law_right" (defArgs (top 35)) ["_law_urn"] 19 den__law_right) (C__law_box : Callee P w K mg base px "_law_box" (defArgs (top 17)) ["_law_script", "_law_k"] 1 den__law_box) : FnOk P w K mg base (L2.CX P w) 20 f fd ["_law_script"] (spOf K px 1 den_law) := by
  have scN := sc_law
  refine fn_run (k := 19) (m := 2) (g := f_law) F_law sc_law rfl fun cdv A outer s H E hr tk po => ?_
  have hu64 := hr.units
  have hu65 : (A.deeper (envOfC "law" (defScope (top 36)) s.heap.objs.size f cdv)).units + 65 < cLine := by have := hr.un; omega
  have hu1 : (A.deeper (envOfC "law" (defScope (top 36)) s.heap.objs.size f cdv)).units + 1 < cLine := by have := hr.un; omega
  exact jss_cons (js_if (jt_not (jt_truth (JE.b (JX.frz (jx_own0 C__law_by_hand_right (hr.mono (by decide)) tk rfl (by decide)))) (fun _ => rfl))) (jss_one (js_ret (jx_bl))) (jss_nil))
      (jss_cons (js_asg (ps_set (i := 1) scN.nd rfl (by first | exact Or.inl rfl | exact Or.inr rfl) (jx_own C__law_cells (hr.mono (by decide)) tk rfl (jab_cons (JE.b (JX.frz (jx_var (pv 0)))) (jab_cons (JE.b (JX.frz (jx_int))) (jab_nil) rfl) rfl) (blS (blS bl0)) (by decide) rfl rfl) (by first | rfl | exact sw_false_name | decide)) (fun _ _ _ h => h))
      (jss_one (js_ret (jx_callB (cr_allU rfl) rfl B.all boot_all (jab_cons (JE.b (JX.frz (jx_lc (own := [("_law_k", 2)]) rfl scN.nd (ji_range1 rfl B.range (ja_cons (JX.frz (jx_callB cr_lenU rfl B.len boot_len (jab_cons (jb_rd (pv 1)) (jab_nil) rfl) (by decide) (by decide) rfl rfl)) (ja_nil) rfl) rfl) (blkOk_by (own := [("_law_k", 2)]) (N := N_law) (by kernel_rfl)) (fun _ _ _ _ _ => jg_name (pg_name (i := 2) scN.nd rfl (by first | exact Or.inl rfl | exact Or.inr rfl)) (by decide)) (fun _ _ _ _ _ => jts_nil) (fun _ _ _ _ _ => JX.frz (jx_ownF C__law_right (hr.mono (by decide)) takes0 rfl (jx_own C__law_box (hr.mono (by decide)) takes0 rfl (jab_cons (JE.b (JX.frz (jx_var (pv 1)))) (jab_cons (JE.b (JX.frz (jx_var (pv 2)))) (jab_nil) rfl) rfl) (blS (blS bl0)) (by decide) rfl rfl) (by decide) rfl)) (fun _ => rfl)))) (jab_nil) rfl) (by decide) (by decide) rfl rfl))))
end
end U
end

section
set_option Elab.async false
set_option linter.all false
set_option maxRecDepth 100000
namespace U
open PySem PySem.Spec PyProof.Rows L2
/-! ### the urn -/
theorem at3 : (∀ x y z : D, atI [x, y, z] 0 = some x) ∧ (∀ x y z : D, atI [x, y, z] 1 = some y) ∧ (∀ x y z : D, atI [x, y, z] 2 = some z) ∧ (∀ x y z : D, ixN [x, y, z].length 0 = some 0) ∧ (∀ x y z : D, ixN [x, y, z].length 1 = some 1) ∧ (∀ x y z : D, ixN [x, y, z].length 2 = some 2) := by
  repeat' apply And.intro
  all_goals (intros; rfl)
theorem log2_few {n : Nat} (h : n < 2 ^ 200) : n.log2 < 9000 := by
  by_cases h0 : n = 0
  · subst h0; decide
  · have := (Nat.log2_lt h0).mpr h
    omega
theorem cMul_r {i j : Int} (h : j.natAbs < 2 ^ 64) : cMul i j = true := by unfold cMul; simp [h]
theorem cMul_l {i j : Int} (h : i.natAbs < 2 ^ 64) : cMul i j = true := by unfold cMul; simp [h]
def Urn (k : Nat) (u : List D) : Prop := ∃ a b c : Int, u = [.int a, .int b, .int c] ∧ 0 ≤ a ∧ 0 ≤ b ∧ 0 ≤ c ∧ c ≤ k
theorem Urn.mono {k k' : Nat} {u : List D} (h : Urn k u) (le : k ≤ k') : Urn k' u := by
  obtain ⟨a, b, c, e, h1, h2, h3, h4⟩ := h
  exact ⟨a, b, c, e, h1, h2, h3, by omega⟩
theorem take_ok {k : Nat} {u : List D} {n : Int} (hu : Urn k u) (hk : k < 2 ^ 60) (hn : 0 < n) (hl : n.natAbs.log2 < 9000) :
    ∃ d u', 0 ≤ d ∧ d < n ∧ Urn (k + 1) u' ∧ den__law_take [.io (.l u), .val (.int n)] = .ok (.d (.int d)) [.io (.l u'), .no] := by
  obtain ⟨a, b, c, rfl, h1, h2, h3, h4⟩ := hu
  by_cases h : 0 < a
  · refine ⟨a % n, [.int (a / n), .int b, .int c], Int.emod_nonneg _ (by omega), Int.emod_lt_of_pos _ hn, ⟨a / n, b, c, rfl, Int.ediv_nonneg h1 (by omega), h2, h3, by omega⟩, ?_⟩
    simp only [den__law_take, f__law_take, evl, evl2, evl3, evl4, prim, slotsE, at3, h, hn, hl, decide_true, if_true, cDiv, Bool.and_true, Bool.and_self]
  · have m1 : ∀ x : Int, cMul 48271 x = true := fun x => cMul_l (by decide)
    have m2 : ∀ x : Int, cMul x (39373 + (c + 1)) = true := fun x => cMul_r (by omega)
    have m3 : ∀ x y : Int, cMul x (y % 40009 + 7) = true := fun x y => cMul_r (by
      have := Int.emod_nonneg y (show (40009 : Int) ≠ 0 by decide)
      have := Int.emod_lt_of_pos y (show (0 : Int) < 40009 by decide)
      omega)
    have m4 : ∀ x : Int, cMul x 48271 = true := fun x => cMul_r (by decide)
    have d1 : cDiv 0 1000003 = true := by decide
    have d2 : ∀ x : Int, cDiv x 1000003 = true := fun x => by unfold cDiv; decide
    have d3 : ∀ x : Int, cDiv x 64 = true := fun x => by unfold cDiv; decide
    refine ⟨_, [.int a, .int b, .int (c + 1)], ?_, ?_, ⟨a, b, c + 1, rfl, h1, h2, by omega, by omega⟩, by
      simp only [den__law_take, f__law_take, evl, evl2, evl3, evl4, prim, slotsE, at3, h, hn, hl, decide_true, decide_false, if_true, if_false, Bool.false_eq_true, m1, m2, m3, m4, d2, d3, show decide ((0 : Int) < 2147483647) = true from by decide, show decide ((0 : Int) < 40009) = true from by decide, show decide ((0 : Int) < 2147483629) = true from by decide, show decide ((0 : Int) < 2147483587) = true from by decide]
      rfl⟩
    · exact Int.emod_nonneg _ (by omega)
    · exact Int.emod_lt_of_pos _ hn
/-! ### the comparison -/
theorem sameTup {n : Nat} {dself : List Sl → DR} {xs : List D} {d : D} (hd : d = .tup xs ∨ d = .lst xs) (hl : xs.length < lim) (ih : ∀ x ∈ xs, dself [.val x, .val x] = .ok (.d (.bl true)) [.no, .no]) :
    run 2 (f__law_same dself) [.val d, .val d] = .ok (.d (.bl true)) [.no, .no] := by
  have comp : ∀ el : T → Rs D, el = frz (sCall dself (sBCons (toB (frz (sVar 2))) (sBCons (toB (frz (sVar 3))) sBNil))) →
      compL (turnC (gTp 2 (gN1 (gNm 2) (gN1 (gNm 3) gN0))) (fun τ => .ok true τ) el [2, 3]) (zipD xs xs) [.val d, .val d, .no, .no] [] = .ok ((zipD xs xs).map fun _ => .bl true) [.val d, .val d, .no, .no] := fun el hel => by
    rw [compL_pure (h := fun _ => .bl true) (zipD xs xs) [] (fun z hz => ?_) (by rw [zipD_len, List.length_nil]; omega)]
    · rfl
    · obtain ⟨x, hx, rfl⟩ := zipD_self hz
      subst hel
      have e := ih x hx
      simp only [evl, evl2, evl3, evl4, prim, slotsE, e, List.length_cons, List.length_nil, if_true, List.nodup_nil]
  have hall : gAll (.lst ((zipD xs xs).map fun _ => D.bl true)) = some (.d (.bl true)) := gAll_true fun d hd => by
    obtain ⟨_, _, e⟩ := List.mem_map.mp hd
    exact e.symm
  have hc := comp _ rfl
  rcases hd with rfl | rfl
  · simp only [f__law_same, evl, evl2, evl3, evl4, prim, slotsE, tyE, isE, eqE, bne_self_eq_false, Bool.false_eq_true, if_false, if_true, hc, hall, beq_self_eq_true, Bool.false_bne]
  · simp only [f__law_same, evl, evl2, evl3, evl4, prim, slotsE, tyE, isE, eqE, bne_self_eq_false, Bool.false_eq_true, if_false, if_true, hc, hall, beq_self_eq_true, Bool.false_bne]
theorem same_self : ∀ (n : Nat) (d : D), n ≤ 60 → okS n d = true → den__law_same (n + 1) [.val d, .val d] = .ok (.d (.bl true)) [.no, .no] := by
  intro n
  induction n with
  | zero =>
    intro d hn h
    show run 2 (f__law_same (den__law_same 0)) [.val d, .val d] = _
    cases d <;> first | (simp [okS] at h; done) | skip
    · simp only [f__law_same, evl, evl2, evl3, evl4, prim, slotsE, tyE, isE, eqE, bne_self_eq_false, Bool.false_eq_true, if_false, if_true, beq_self_eq_true, Bool.false_bne]
    · simp only [f__law_same, evl, evl2, evl3, evl4, prim, slotsE, tyE, isE, eqE, bne_self_eq_false, Bool.false_eq_true, if_false, if_true, beq_self_eq_true, Bool.false_bne]
    · simp only [f__law_same, evl, evl2, evl3, evl4, prim, slotsE, tyE, isE, eqE, bne_self_eq_false, Bool.false_eq_true, if_false, if_true, beq_self_eq_true, Bool.false_bne, Bool.not_false]
    · rename_i x
      have e : gEq false (.str x) (.str x) = some (.d (.bl true)) := by
        have h1 : (D.str x).ok 60 = true := by simpa [okS, D.ok] using h
        unfold gEq
        rw [h1]
        simp [D.eqb]
      simp only [f__law_same, evl, evl2, evl3, evl4, prim, slotsE, tyE, isE, eqE, bne_self_eq_false, Bool.false_eq_true, if_false, if_true, beq_self_eq_true, Bool.false_bne, Bool.not_false, e]
  | succ n ih =>
    intro d hn h
    show run 2 (f__law_same (den__law_same (n + 1))) [.val d, .val d] = _
    cases d with
    | tup xs =>
      unfold okS at h
      simp only [Bool.and_eq_true, decide_eq_true_eq] at h
      exact sameTup (n := n) (.inl rfl) h.1 fun x hx => ih x (by omega) (List.all_eq_true.mp h.2 x hx)
    | lst xs =>
      unfold okS at h
      simp only [Bool.and_eq_true, decide_eq_true_eq] at h
      exact sameTup (n := n) (.inr rfl) h.1 fun x hx => ih x (by omega) (List.all_eq_true.mp h.2 x hx)
    | non => simp only [f__law_same, evl, evl2, evl3, evl4, prim, slotsE, tyE, isE, eqE, bne_self_eq_false, Bool.false_eq_true, if_false, if_true, beq_self_eq_true, Bool.false_bne]
    | bl b => simp only [f__law_same, evl, evl2, evl3, evl4, prim, slotsE, tyE, isE, eqE, bne_self_eq_false, Bool.false_eq_true, if_false, if_true, beq_self_eq_true, Bool.false_bne]
    | int i => simp only [f__law_same, evl, evl2, evl3, evl4, prim, slotsE, tyE, isE, eqE, bne_self_eq_false, Bool.false_eq_true, if_false, if_true, beq_self_eq_true, Bool.false_bne, Bool.not_false]
    | str x =>
      have e : gEq false (.str x) (.str x) = some (.d (.bl true)) := by
        have h1 : (D.str x).ok 60 = true := by simpa [okS, D.ok] using h
        unfold gEq
        rw [h1]
        simp [D.eqb]
      simp only [f__law_same, evl, evl2, evl3, evl4, prim, slotsE, tyE, isE, eqE, bne_self_eq_false, Bool.false_eq_true, if_false, if_true, beq_self_eq_true, Bool.false_bne, Bool.not_false, e]
    | _ => simp [okS] at h
theorem same12 {d : D} (h : okS 11 d = true) : den__law_same 12 [.val d, .val d] = .ok (.d (.bl true)) [.no, .no] := same_self 11 d (by decide) h
/-! ### the cells and the box -/
theorem at_nat {α : Type} {xs : List α} {i : Nat} (h : i < xs.length) : atI xs (i : Int) = some xs[i] := by
  unfold atI ixN
  have h0 : (0 : Int) ≤ (i : Int) := by omega
  have h1 : (i : Int) < (xs.length : Int) := by omega
  rw [if_pos h0, if_pos h1]
  simp [h]
theorem ixN_nat {n i : Nat} (h : i < n) : ixN n (i : Int) = some i := by
  unfold ixN
  rw [if_pos (by omega), if_pos (by omega)]
  simp
theorem cells_loop : ∀ (es : List Int) (k : Nat) (cs : List Int) (σ3 σ4 σ5 : Sl) (ns : List Int), k + es.length ≤ 100 → cs.length = 3 → σ3.free = true → σ4.free = true → σ5.free = true →
    ∃ (cs' : List Int) (s3 s4 s5 : Sl), cs'.length = 3 ∧ forL (sBody (gTp 2 (gN1 (gNm 3) (gN1 (gNm 4) gN0))) (sSeq (sSet 5 (sOp2 (gInt (fun _ j => decide (0 < j)) fun i j => i % j) (toB (frz (sCB (g1 gIntC) (sBCons (sRd 3) sBNil)))) (sRd 1))) (sStore 2 (frz (sOp2 gAdd (toB (frz (sOp2 gIx (sRd 2) (sRd 5)))) (toB (frz (sOp2 gMul (sRd 4) (toB (frz (sOp2 gAdd (sRd 3) (toB (frz (sC (.int 2)))))))))))) (frz (sVar 5)))))
      (numb k (es.map D.int)) [.val (.scr ns), .val (.int 3), .own (.l (cs.map D.int)), σ3, σ4, σ5] = .nx [.val (.scr ns), .val (.int 3), .own (.l (cs'.map D.int)), s3, s4, s5]
  | [], k, cs, σ3, σ4, σ5, ns, _, hc, _, _, _ => ⟨cs, σ3, σ4, σ5, hc, rfl⟩
  | e :: es, k, cs, σ3, σ4, σ5, ns, hk, hc, f3, f4, f5 => by
    have hr : (k : Int) % 3 = ((k % 3 : Nat) : Int) := by omega
    have hlt : k % 3 < cs.length := by omega
    have ha : atI (cs.map D.int) ((k : Int) % 3) = some (.int cs[k % 3]) := by
      rw [hr, at_nat (by simpa using hlt)]; simp
    have hi : ixN (cs.map D.int).length ((k : Int) % 3) = some (k % 3) := by rw [hr]; exact ixN_nat (by simpa using hlt)
    have hm : cMul e ((k : Int) + 2) = true := cMul_r (by
      rw [List.length_cons] at hk
      omega)
    obtain ⟨cs', s3, s4, s5, h1, h2⟩ := cells_loop es (k + 1) (cs.set (k % 3) (cs[k % 3] + e * ((k : Int) + 2))) (.val (.int k)) (.val (.int e)) (.val (.int ((k : Int) % 3))) ns (by rw [List.length_cons] at hk; omega) (by simpa using hc) rfl rfl rfl
    refine ⟨cs', s3, s4, s5, h1, ?_⟩
    rw [List.map_cons]
    show forL _ (.tup [.int (k : Int), .int e] :: numb (k + 1) (es.map D.int)) _ = _
    rw [forL_step (τ1 := [.val (.scr ns), .val (.int 3), .own (.l ((cs.set (k % 3) (cs[k % 3] + e * ((k : Int) + 2))).map D.int)), .val (.int k), .val (.int e), .val (.int ((k : Int) % 3))])]
    · exact h2
    · simp only [evl, evl2, evl3, evl4, prim, slotsE, f3, f4, f5, if_true, ha, hi, hm, List.length_cons, List.length_nil, show decide ((0 : Int) < 3) = true from by decide, List.map_set]
theorem cells_ok (ns : List Int) (hn : ns.length ≤ 63) : ∃ cs : List Int, 1 ≤ cs.length ∧ cs.length ≤ 3 ∧ den__law_cells [.val (.scr ns), .val (.int 3)] = .ok (.o (.l (cs.map D.int))) [.no, .no] := by
  have c1 : cutA ns none (some 3) = ns.take 3 := by
    unfold cutA
    have : HT.sIx ns.length ns.length (some 3) = min 3 ns.length := HT.sIx_nat ns.length ns.length 3
    rw [this, HT.sIx_none, List.drop_zero, Nat.sub_zero]
    rw [Nat.min_def]; split
    · rfl
    · rw [List.take_of_length_le (by omega), List.take_of_length_le (by omega)]
  have c2 : ∃ es : List Int, es.length ≤ 60 ∧ (ns.length ≤ 3 → es = []) ∧ cutA ns (some 3) (some 63) = es := by
    refine ⟨_, ?_, ?_, rfl⟩
    · unfold cutA
      rw [show HT.sIx ns.length 0 (some 3) = min 3 ns.length from HT.sIx_nat ns.length 0 3, show HT.sIx ns.length ns.length (some 63) = min 63 ns.length from HT.sIx_nat ns.length ns.length 63]
      simp only [List.length_take, List.length_drop]
      omega
    · intro h
      unfold cutA
      rw [show HT.sIx ns.length 0 (some 3) = min 3 ns.length from HT.sIx_nat ns.length 0 3]
      rw [List.drop_of_length_le (by omega)]
      simp
  obtain ⟨es, h60, hnil, c2⟩ := c2
  by_cases h3 : ns.length ≤ 3
  · have := hnil h3
    subst this
    cases ns with
    | nil =>
      refine ⟨[0], by decide, by decide, ?_⟩
      simp only [den__law_cells, f__law_cells, evl, evl2, evl3, evl4, prim, slotsE, c1, c2, List.take_nil, List.map_nil, List.isEmpty_nil, Bool.not_true, List.length_cons, List.length_nil, if_true, numb, forL, show (0 + 1 ≤ lim) = True from by simp [lim], List.map_cons]
    | cons a as =>
      refine ⟨(a :: as).take 3, by simp, by simp; omega, ?_⟩
      have hne : (((a :: as).take 3).map D.int).isEmpty = false := by simp
      simp only [den__law_cells, f__law_cells, evl, evl2, evl3, evl4, prim, slotsE, c1, c2, List.map_nil, hne, Bool.not_false, List.length_cons, List.length_nil, if_true, numb, forL]
  · have hne : ((ns.take 3).map D.int).isEmpty = false := by
      cases ns with
      | nil => simp at h3
      | cons a as => simp
    obtain ⟨cs', s3, s4, s5, h1, h2⟩ := cells_loop es 0 (ns.take 3) .no .no .no ns (by omega) (by rw [List.length_take]; omega) rfl rfl rfl
    refine ⟨cs', by omega, by omega, ?_⟩
    simp only [den__law_cells, f__law_cells, evl, evl2, evl3, evl4, prim, slotsE, c1, c2, hne, Bool.not_false, if_true, h2]
theorem box_ok (cs : List Int) (k : Nat) (hk : k < cs.length) (hl : cs.length ≤ 3) : ∃ u, Urn 0 u ∧ den__law_box [.val (.lst (cs.map D.int)), .val (.int k)] = .ok (.o (.l u)) [.no, .no] := by
  have hlt : decide ((k : Int) < ((cs.map D.int).length : Int)) = true := by simpa using hk
  have ha : atI (cs.map D.int) (k : Int) = some (.int cs[k]) := by rw [at_nat (by simpa using hk)]; simp
  have m1 : ∀ x : Int, cMul 39373 x = true := fun x => cMul_l (by decide)
  have m2 : ∀ (x : Int) (b : Bool), cMul x (if b then 1 else 0) = true := fun x b => cMul_r (by cases b <;> decide)
  have p1 : cPow 10 18 = true := by decide
  generalize hz : cs[k] = z at ha
  refine ⟨_, ⟨_, _, _, rfl, ?_, ?_, ?_, ?_⟩, by
    simp only [den__law_box, f__law_box, evl, evl2, evl3, evl4, prim, slotsE, hlt, ha, if_true, m1, m2, p1, List.length_cons, List.length_nil, show decide ((0 : Int) < 2305843009213693951) = true from by decide, show (0 + 1 + 1 + 1 ≤ lim) = True from by simp [lim]]
    rfl⟩
  · refine Int.mul_nonneg (by split <;> omega) (by split <;> omega)
  · have := Int.emod_nonneg z (show (2305843009213693951 : Int) ≠ 0 by decide)
    omega
  · decide
  · decide
end U
end

section
set_option Elab.async false
set_option linter.all false
set_option maxRecDepth 100000
namespace U
open PySem PySem.Spec PyProof.Rows L2
/-! ### small facts for readings -/
theorem nd0 : ([] : List Nat).Nodup = True := by simp
theorem nd1 (i : Nat) : [i].Nodup = True := by simp
theorem lim_big {n : Nat} (h : n ≤ 1000) : n ≤ lim := Nat.le_trans h (by decide)
theorem limE : (0 ≤ lim) = True ∧ (1 ≤ lim) = True ∧ (2 ≤ lim) = True ∧ (3 ≤ lim) = True ∧ (4 ≤ lim) = True ∧ (5 ≤ lim) = True ∧ (6 ≤ lim) = True ∧ (7 ≤ lim) = True ∧ (8 ≤ lim) = True ∧ (9 ≤ lim) = True ∧ (10 ≤ lim) = True ∧ (11 ≤ lim) = True ∧ (12 ≤ lim) = True := by
  repeat' apply And.intro
  all_goals exact eq_true (by decide)
theorem run_seq {S R : T → SR} {τ t : T} {as : List Sl} {X : DR} (h : S τ = .nx t) (h2 : DR.of (R t) as = X) : DR.of (sSeq S R τ) as = X := by
  show DR.of ((S τ).then R) as = X
  rw [h]; exact h2
theorem seq_nx {S R : T → SR} {τ t : T} {X : SR} (h : S τ = .nx t) (h2 : R t = X) : sSeq S R τ = X := by
  show (S τ).then R = X
  rw [h]; exact h2
theorem cutA_to {α : Type} (xs : List α) (k : Nat) : cutA xs none (some (k : Int)) = xs.take k := by
  unfold cutA
  rw [HT.sIx_nat, HT.sIx_none, List.drop_zero, Nat.sub_zero]
  rw [Nat.min_def]
  split
  · rfl
  · rw [List.take_of_length_le (Nat.le_refl _), List.take_of_length_le (by omega)]
theorem cutA_from {α : Type} (xs : List α) (k : Nat) : cutA xs (some (k : Int)) none = xs.drop k := by
  unfold cutA
  rw [HT.sIx_nat, HT.sIx_none]
  rw [List.take_of_length_le (by rw [List.length_drop]; omega)]
  rw [Nat.min_def]
  split
  · rfl
  · rw [List.drop_of_length_le (Nat.le_refl _), List.drop_of_length_le (by omega)]
/-- a comprehension with a test, its state unchanged -/
theorem compL_filt {α : Type} {f : D → T → Rs (Option D)} {g h : α → D} {q : α → Bool} {τ : T} (xs : List α) (hf : ∀ x ∈ xs, f (g x) τ = .ok (if q x then some (h x) else none) τ) (hl : xs.length ≤ lim) : compL f (xs.map g) τ [] = .ok ((xs.filter q).map h) τ := by
  have key : ∀ (xs : List α) (acc : List D), (∀ x ∈ xs, f (g x) τ = .ok (if q x then some (h x) else none) τ) → acc.length + xs.length ≤ lim → compL f (xs.map g) τ acc = .ok (acc ++ (xs.filter q).map h) τ := fun xs => by
    induction xs with
    | nil => intro acc _ _; simp [compL]
    | cons x xs ih =>
      intro acc hf hl
      rw [List.length_cons] at hl
      have hlt : acc.length < lim := by omega
      have e := hf x (List.mem_cons_self ..)
      have ih' := fun a b => ih a (fun z hz => hf z (List.mem_cons_of_mem _ hz)) b
      rw [List.map_cons]
      cases c : q x with
      | true =>
        rw [c] at e
        show (match f (g x) τ with
          | .ok (some z) τ1 => if acc.length < lim then compL f (xs.map g) τ1 (acc ++ [z]) else .stuck
          | .ok none τ1 => compL f (xs.map g) τ1 acc
          | _ => .stuck) = _
        rw [e]
        show (if acc.length < lim then compL f (xs.map g) τ (acc ++ [h x]) else .stuck) = _
        rw [if_pos hlt, ih' _ (by rw [List.length_append, List.length_singleton]; omega), List.filter_cons_of_pos c]
        simp
      | false =>
        rw [c] at e
        show (match f (g x) τ with
          | .ok (some z) τ1 => if acc.length < lim then compL f (xs.map g) τ1 (acc ++ [z]) else .stuck
          | .ok none τ1 => compL f (xs.map g) τ1 acc
          | _ => .stuck) = _
        rw [e]
        show compL f (xs.map g) τ acc = _
        rw [ih' _ (by omega), List.filter_cons_of_neg (by simp [c])]
  rw [key xs [] hf (by rw [List.length_nil]; omega)]
  rfl
theorem compL_over {α : Type} {f : D → T → Rs (Option D)} {g h : α → D} {τ : T} (xs : List α) (hf : ∀ x ∈ xs, f (g x) τ = .ok (some (h x)) τ) (hl : xs.length ≤ lim) : compL f (xs.map g) τ [] = .ok (xs.map h) τ := by
  have e := compL_filt (f := f) (g := g) (h := h) (q := fun _ => true) (τ := τ) xs (fun x hx => by rw [hf x hx]; rfl) hl
  rw [List.filter_eq_self.mpr (fun _ _ => rfl)] at e
  exact e
theorem rng_mem {n : Nat} {d : D} (h : d ∈ rng 0 n) : ∃ i : Nat, i < n ∧ d = .int i := by
  unfold rng at h
  obtain ⟨i, hi, e⟩ := List.mem_map.mp h
  exact ⟨i, List.mem_range.mp hi, by rw [← e, Int.zero_add]⟩
theorem rng_eq (n : Nat) : rng 0 n = (List.range n).map fun (j : Nat) => D.int (j : Int) := by
  unfold rng; exact List.map_congr_left fun j _ => by rw [Int.zero_add]
theorem small62 {n : Nat} (h : n ≤ 1000) : ((n : Int).natAbs < 2 ^ 62) = True := eq_true (by omega)
theorem toNatI (n : Nat) : (n : Int).toNat = n := by omega
theorem popAt_eq (ds : List D) (i : Int) : mPopAt (.l ds) [.int i] = if i.natAbs < 2 ^ 63 then (match seqIndex? i ds.length with
    | some k => (ds[k]?).map fun d => (d, .l (ds.eraseIdx k))
    | none => none) else none := rfl
theorem seqIx {n j : Nat} (h : j < n) : seqIndex? (j : Int) n = some j := by
  unfold seqIndex?
  split <;> first | (split <;> first | rfl | omega) | omega | skip
  all_goals first | (simp; omega) | omega | simp_all
theorem eraseIdx_mp {α β : Type} (f : α → β) : ∀ (l : List α) (j : Nat), (l.map f).eraseIdx j = (l.eraseIdx j).map f
  | [], _ => rfl
  | a :: l, 0 => rfl
  | a :: l, j + 1 => by simp [eraseIdx_mp f l j]
theorem popAt_nm {rest : NS} {j : Nat} (hj : j < rest.length) (hl : rest.length ≤ 60) : mPopAt (.l (rest.map nmD)) [.int (j : Int)] = some (nmD rest[j], .l ((rest.eraseIdx j).map nmD)) := by
  rw [popAt_eq, if_pos (by omega), seqIx (by rw [List.length_map]; exact hj)]
  simp only [List.getElem?_map, List.getElem?_eq_getElem hj, eraseIdx_mp]
  rfl
/-! ### hard (tuples) or soft (lists) -/
def sq (h : Bool) (xs : List D) : D := if h then .tup xs else .lst xs
theorem sq_items (h : Bool) (xs : List D) : (sq h xs).items = some xs := by cases h <;> rfl
theorem sq_gTp (h : Bool) (n : Nat) (g : List D → T → Option T) (xs : List D) (τ : T) : gTp n g (sq h xs) τ = if xs.length = n then g xs τ else none := by cases h <;> rfl
theorem sq_gIn (h : Bool) (neg : Bool) (d : D) (xs : List D) : gIn neg d (sq h xs) = if d.ok 60 && D.okL xs 60 then some (.d (.bl (neg != d.mem xs))) else none := by cases h <;> rfl
theorem sq_tuple (h : Bool) (xs : List D) : gTuple (sq h xs) = some (.d (.tup xs)) := by cases h <;> rfl
theorem sq_len (h : Bool) (xs : List D) : gLen (sq h xs) = some (.d (.int xs.length)) := by cases h <;> rfl
theorem sq_gSS (h : Bool) (xs : List D) : gSS (sq h xs) = if okSet xs then some (.o (.l (setD xs))) else none := by cases h <;> rfl
theorem sq_gSorted (h : Bool) (xs : List D) : gSorted (sq h xs) = if canSort xs then some (.o (.l (sortD xs))) else none := by cases h <;> rfl
abbrev Bk := List (Nm × List NS)
def setE (h : Bool) (s : NS) : D := sq h (s.map nmD)
def lotE (h : Bool) (l : List NS) : D := sq h (l.map (setE h))
def rowE (h : Bool) (r : Nm × List NS) : D := sq h [nmD r.1, lotE h r.2]
def bkE (h : Bool) (b : Bk) : D := sq h (b.map (rowE h))
theorem setE_T : setE true = setT := rfl
/-! good names -/
def GS (s : NS) : Prop := ∀ x ∈ s, GN x
def GL (l : List NS) : Prop := ∀ s ∈ l, GS s
def GB (b : Bk) : Prop := ∀ r ∈ b, GN r.1 ∧ GL r.2
theorem nm_ok {x : Nm} (h : GN x) (n : Nat) : (nmD x).ok n = true := by
  cases n <;> simpa [nmD, D.ok, GN] using h
theorem nms_ok {s : NS} (h : GS s) (n : Nat) : D.okL (s.map nmD) n = true := okL_of fun d hd => by
  obtain ⟨x, hx, rfl⟩ := List.mem_map.mp hd
  exact nm_ok (h x hx) n
theorem sq_ok (h : Bool) (xs : List D) (n : Nat) : (sq h xs).ok (n + 1) = D.okL xs n := by cases h <;> simp [sq, D.ok]
theorem set_ok {s : NS} (h : GS s) (b : Bool) (n : Nat) : (setE b s).ok (n + 1) = true := by unfold setE; rw [sq_ok]; exact nms_ok h n
theorem lot_ok {l : List NS} (h : GL l) (b : Bool) (n : Nat) : (lotE b l).ok (n + 2) = true := by
  unfold lotE
  rw [sq_ok]
  refine okL_of fun d hd => ?_
  obtain ⟨x, hx, rfl⟩ := List.mem_map.mp hd
  exact set_ok (h x hx) b n
/-- x in s -/
theorem gIn_nm (h neg : Bool) {x : Nm} {s : NS} (hx : GN x) (hs : GS s) : gIn neg (nmD x) (setE h s) = some (.d (.bl (neg != inB x s))) := by
  unfold setE
  rw [sq_gIn, nm_ok hx, nms_ok hs, mem_enc nm_eqb, Bool.and_self, if_pos rfl]
theorem nm_like (a b : Nm) : (nmD a).like (nmD b) = true := by simp [nmD, D.like]
theorem nms_like : ∀ a b : NS, D.likeL (a.map nmD) (b.map nmD) = true
  | [], _ => by simp [D.likeL]
  | a :: as, [] => by simp [D.likeL]
  | a :: as, b :: bs => by simp only [List.map_cons, D.likeL, nm_like, nms_like as bs, Bool.and_self]
theorem set_like (a b : NS) : (setT a).like (setT b) = true := by simp only [setT, D.like]; exact nms_like a b
theorem sort_nms {s : NS} (hs : GS s) (hl : s.length ≤ lim) : CanSort (s.map nmD) where
  len := by rw [List.length_map]; exact hl
  ok := fun d hd => by obtain ⟨x, hx, rfl⟩ := List.mem_map.mp hd; exact nm_ok (hs x hx) 60
  non := fun d hd => by obtain ⟨x, hx, rfl⟩ := List.mem_map.mp hd; rfl
  like := fun d hd e he => by
    obtain ⟨x, _, rfl⟩ := List.mem_map.mp hd
    obtain ⟨y, _, rfl⟩ := List.mem_map.mp he
    exact nm_like x y
theorem sort_sets {l : List NS} (hs : GL l) (hl : l.length ≤ lim) : CanSort (l.map setT) where
  len := by rw [List.length_map]; exact hl
  ok := fun d hd => by obtain ⟨x, hx, rfl⟩ := List.mem_map.mp hd; exact set_ok (hs x hx) true 59
  non := fun d hd => by obtain ⟨x, hx, rfl⟩ := List.mem_map.mp hd; rfl
  like := fun d hd e he => by
    obtain ⟨x, _, rfl⟩ := List.mem_map.mp hd
    obtain ⟨y, _, rfl⟩ := List.mem_map.mp he
    exact set_like x y
/-- sorted(names) -/
theorem gSorted_nms (h : Bool) {s : NS} (hs : GS s) (hl : s.length ≤ lim) : gSorted (sq h (s.map nmD)) = some (.o (.l ((isort ltN s).map nmD))) := by
  rw [sq_gSorted, canSort_iff (sort_nms hs hl), sortD_map nm_lt]; rfl
theorem hs_nms : ∀ (s : NS) (n : Nat), D.hsL (s.map nmD) n = true
  | [], n => rfl
  | x :: s, n => by simp only [List.map_cons, D.hsL, hs_nms s n, Bool.and_true]; simp [nmD, D.hs]
/-- sorted(set(sets)) -/
theorem gSS_sets (h : Bool) {l : List NS} (hs : GL l) (hl : l.length ≤ lim) (few : (dd l).length < 64) : gSS (sq h (l.map setT)) = some (.o (.l ((sof' ltS l).map setT))) := by
  have ok : okSet (l.map setT) = true := by
    unfold okSet
    rw [canSort_iff (sort_sets hs hl), dedupD_map set_eqb, List.length_map, decide_eq_true few]
    have h1 : (l.map setT).all isTup = true := List.all_eq_true.mpr fun d hd => by obtain ⟨x, _, rfl⟩ := List.mem_map.mp hd; rfl
    have h2 : ((l.map setT).all fun d => d.hs 8) = true := List.all_eq_true.mpr fun d hd => by
      obtain ⟨x, _, rfl⟩ := List.mem_map.mp hd
      simp only [setT, D.hs]; exact hs_nms x 7
    rw [h1, h2]
    simp
  rw [sq_gSS, ok, setD_map set_eqb set_lt]; rfl
/-- s == t -/
theorem gEq_sets (neg : Bool) {a b : NS} (ha : GS a) (hb : GS b) : gEq neg (setT a) (setT b) = some (.d (.bl (neg != decide (a = b)))) := by
  unfold gEq
  rw [show (setT a).ok 60 = true from set_ok ha true 59, show (setT b).ok 60 = true from set_ok hb true 59, set_eqb]; rfl
/-- xs == [] -/
theorem gEq_nil (neg : Bool) {xs : List D} (h : D.okL xs 59 = true) : gEq neg (.lst xs) (.lst []) = some (.d (.bl (neg != xs.isEmpty))) := by
  unfold gEq
  have h1 : (D.lst xs).ok 60 = true := by simpa [D.ok] using h
  have h2 : (D.lst []).ok 60 = true := by simp [D.ok, D.okL]
  rw [h1, h2]
  cases xs <;> simp [D.eqb, D.eqbL]
end U
end

section
set_option Elab.async false
set_option linter.all false
set_option maxRecDepth 100000
namespace U
open PySem PySem.Spec PyProof.Rows L2
mutual
def tupD : D → D
  | .tup xs => .tup (tupDL xs)
  | .lst xs => .tup (tupDL xs)
  | .non => .non
  | .bl b => .bl b
  | .int i => .int i
  | .str x => .str x
  | .dct a b c => .dct a b c
  | .exc a b => .exc a b
  | .scr a => .scr a
  | .ptp a => .ptp a
def tupDL : List D → List D
  | [] => []
  | d :: ds => tupD d :: tupDL ds
end
theorem tupDL_map : ∀ ds : List D, tupDL ds = ds.map tupD
  | [] => rfl
  | d :: ds => by simp only [tupDL, List.map_cons, tupDL_map ds]
theorem tupD_sq (h : Bool) (xs : List D) : tupD (sq h xs) = .tup (xs.map tupD) := by
  cases h
  · show tupD (.lst xs) = _; simp only [tupD, tupDL_map]
  · show tupD (.tup xs) = _; simp only [tupD, tupDL_map]
theorem tupD_set (h : Bool) (s : NS) : tupD (setE h s) = setT s := by
  unfold setE
  rw [tupD_sq, List.map_map]; rfl
theorem tupD_lot (h : Bool) (l : List NS) : tupD (lotE h l) = lotE true l := by
  unfold lotE
  rw [tupD_sq, List.map_map]
  show D.tup _ = D.tup _
  congr 1
  exact List.map_congr_left fun s _ => tupD_set h s
theorem tupD_row (h : Bool) (r : Nm × List NS) : tupD (rowE h r) = rowE true r := by
  unfold rowE
  rw [tupD_sq]
  simp only [List.map_cons, List.map_nil, tupD_lot]; rfl
theorem tupD_bk (h : Bool) (b : Bk) : tupD (bkE h b) = bkE true b := by
  unfold bkE
  rw [tupD_sq, List.map_map]
  show D.tup _ = D.tup _
  congr 1
  exact List.map_congr_left fun s _ => tupD_row h s
theorem tupled_ok : ∀ (n : Nat) (d : D), okS n d = true → den_tupled (n + 1) [.val d] = .ok (.d (tupD d)) [.no] := by
  intro n
  induction n with
  | zero =>
    intro d h
    show run 1 (f_tupled (den_tupled 0)) [.val d] = _
    cases d <;> first | (simp [okS] at h; done) | simp only [f_tupled, evl, evl2, evl3, evl4, prim, slotsE, tyE, isE, tupD, Bool.false_eq_true, if_false]
  | succ n ih =>
    intro d h
    show run 1 (f_tupled (den_tupled (n + 1))) [.val d] = _
    have go : ∀ (xs : List D) (d : D), (d = .tup xs ∨ d = .lst xs) → (decide (xs.length < lim) && xs.all (okS n)) = true → run 1 (f_tupled (den_tupled (n + 1))) [.val d] = .ok (.d (.tup (tupDL xs))) [.no] := fun xs d hd h => by
      simp only [Bool.and_eq_true, decide_eq_true_eq] at h
      have hc : compL (c0_tupled (den_tupled (n + 1))) xs [.val d, .no] [] = .ok (xs.map tupD) [.val d, .no] := by
        rw [compL_pure (h := tupD) xs [] (fun x hx => ?_) (by rw [List.length_nil]; omega)]
        · rfl
        · have e := ih x (List.all_eq_true.mp h.2 x hx)
          generalize den_tupled (n + 1) = dn at e ⊢
          simp only [c0_tupled, evl, evl2, evl3, evl4, prim, slotsE, if_true, e, nd0]
      rw [nE_tupled]
      generalize c0_tupled (den_tupled (n + 1)) = cc at hc ⊢
      rw [tupDL_map]
      rcases hd with rfl | rfl
      · simp only [evl, evl2, evl3, evl4, evl6, prim, slotsE, tyE, isE, if_true, hc]
      · simp only [evl, evl2, evl3, evl4, evl6, prim, slotsE, tyE, isE, if_true, hc]
    cases d with
    | tup xs =>
      unfold okS at h
      simp only [tupD]
      exact go xs _ (.inl rfl) h
    | lst xs =>
      unfold okS at h
      simp only [tupD]
      exact go xs _ (.inr rfl) h
    | non => simp only [f_tupled, evl, evl2, evl3, evl4, prim, slotsE, tyE, isE, tupD, Bool.false_eq_true, if_false]
    | bl b => simp only [f_tupled, evl, evl2, evl3, evl4, prim, slotsE, tyE, isE, tupD, Bool.false_eq_true, if_false]
    | int b => simp only [f_tupled, evl, evl2, evl3, evl4, prim, slotsE, tyE, isE, tupD, Bool.false_eq_true, if_false]
    | str b => simp only [f_tupled, evl, evl2, evl3, evl4, prim, slotsE, tyE, isE, tupD, Bool.false_eq_true, if_false]
    | _ => simp [okS] at h
/-! okS of typed data -/
theorem okS_sq (h : Bool) (xs : List D) (n : Nat) : okS (n + 1) (sq h xs) = (decide (xs.length < lim) && xs.all (okS n)) := by cases h <;> simp [sq, okS]
structure Size (b : Bk) : Prop where
  rows : b.length < lim
  needs : ∀ r ∈ b, r.2.length < lim
  names : ∀ r ∈ b, ∀ s ∈ r.2, s.length < lim
theorem okS_nm {x : Nm} (h : GN x) (n : Nat) : okS n (nmD x) = true := by cases n <;> simpa [okS, nmD, GN] using h
theorem okS_set {s : NS} (h : GS s) (hl : s.length < lim) (b : Bool) (n : Nat) : okS (n + 1) (setE b s) = true := by
  unfold setE
  rw [okS_sq, List.length_map, decide_eq_true hl, Bool.true_and]
  refine List.all_eq_true.mpr fun d hd => ?_
  obtain ⟨x, hx, rfl⟩ := List.mem_map.mp hd
  exact okS_nm (h x hx) n
theorem okS_lot {l : List NS} (h : GL l) (hl : l.length < lim) (hs : ∀ s ∈ l, s.length < lim) (b : Bool) (n : Nat) : okS (n + 2) (lotE b l) = true := by
  unfold lotE
  rw [okS_sq, List.length_map, decide_eq_true hl, Bool.true_and]
  refine List.all_eq_true.mpr fun d hd => ?_
  obtain ⟨x, hx, rfl⟩ := List.mem_map.mp hd
  exact okS_set (h x hx) (hs x hx) b n
theorem okS_row {r : Nm × List NS} (h : GN r.1) (h2 : GL r.2) (hl : r.2.length < lim) (hs : ∀ s ∈ r.2, s.length < lim) (b : Bool) (n : Nat) : okS (n + 3) (rowE b r) = true := by
  unfold rowE
  rw [okS_sq]
  simp only [List.all_cons, List.all_nil, Bool.and_true, okS_nm h, okS_lot h2 hl hs b n, List.length_cons, List.length_nil]
  exact decide_eq_true (show 0 + 1 + 1 < lim by decide)
theorem okS_bk {b : Bk} (g : GB b) (z : Size b) (h : Bool) (n : Nat) : okS (n + 4) (bkE h b) = true := by
  unfold bkE
  rw [okS_sq, List.length_map, decide_eq_true z.rows, Bool.true_and]
  refine List.all_eq_true.mpr fun d hd => ?_
  obtain ⟨x, hx, rfl⟩ := List.mem_map.mp hd
  exact okS_row (g x hx).1 (g x hx).2 (z.needs x hx) (z.names x hx) h n
theorem tupled_ptp {n : Nat} {xs : List D} (h : xs.length < lim) (ho : ∀ x ∈ xs, okS n x = true) : den_tupled (n + 2) [.val (.ptp xs)] = .ok (.d (.tup (xs.map tupD))) [.no] := by
  show run 1 (f_tupled (den_tupled (n + 1))) [.val (.ptp xs)] = _
  have hc : compL (c0_tupled (den_tupled (n + 1))) xs [.val (.ptp xs), .no] [] = .ok (xs.map tupD) [.val (.ptp xs), .no] := by
    rw [compL_pure (h := tupD) xs [] (fun x hx => ?_) (by rw [List.length_nil]; omega)]
    · rfl
    · have e := tupled_ok n x (ho x hx)
      generalize den_tupled (n + 1) = dn at e ⊢
      simp only [c0_tupled, evl, evl2, evl3, evl4, prim, slotsE, if_true, e, nd0]
  have it : (D.ptp xs).items = some xs := rfl
  have ty : (D.ptp xs).ty = some "tuple" := rfl
  rw [nE_tupled]
  generalize c0_tupled (den_tupled (n + 1)) = cc at hc ⊢
  simp only [evl, evl2, evl3, evl4, evl6, prim, slotsE, tyE, isE, if_true, it, ty, hc]
theorem tupled_bk {b : Bk} (g : GB b) (z : Size b) (h : Bool) : den_tupled 12 [.val (bkE h b)] = .ok (.d (bkE true b)) [.no] := by
  rw [tupled_ok 11 _ (okS_bk g z h 7), tupD_bk]
/-! names_of, check_units -/
theorem set_of_ok {l : List NS} (hs : GL l) (hl : l.length ≤ lim) (few : (dd l).length < 64) : den_set_of [.val (.lst (l.map setT))] = .ok (.d (lotE true (sof' ltS l))) [.no] := by
  have h1 : gSS (.lst (l.map setT)) = some (.o (.l ((sof' ltS l).map setT))) := gSS_sets false hs hl few
  have h2 : lotE true (sof' ltS l) = .tup ((sof' ltS l).map setT) := rfl
  rw [h2]
  simp only [den_set_of, f_set_of, evl, evl2, evl3, evl4, prim, slotsE, h1]
end U
end

section
set_option Elab.async false
set_option linter.all false
set_option maxRecDepth 100000
namespace U
open PySem PySem.Spec PyProof.Rows L2
theorem l60' {n : Nat} (h : n ≤ 60) : n < lim := Nat.lt_of_le_of_lt h (by decide)
/-! able -/
def ableB (l : List NS) (u : NS) : Bool := l.any fun nd => nd.all fun x => inB x u
theorem c0_able_ok {h : Bool} {u : NS} {x : Nm} {s0 s2 : Sl} (gx : GN x) (gu : GS u) : c0__law_able (nmD x) [s0, .val (setE h u), s2, .no] = .ok (if (!inB x u) then some (nmD x) else none) [s0, .val (setE h u), s2, .no] := by
  have gi := gIn_nm h true gx gu
  rw [Bool.true_bne] at gi
  cases c : inB x u
  · rw [c] at gi
    simp only [c0__law_able, evl, evl2, evl3, evl4, prim, slotsE, if_true, gi, Bool.not_false, Bool.false_eq_true, if_false]
  · rw [c] at gi
    simp only [c0__law_able, evl, evl2, evl3, evl4, prim, slotsE, if_true, gi, Bool.not_true, Bool.false_eq_true, if_false]
theorem filt_all {α : Type} {p : α → Bool} : ∀ l : List α, (l.filter fun x => !p x).isEmpty = l.all p
  | [] => rfl
  | a :: l => by
    cases c : p a
    · rw [List.filter_cons_of_pos (by simp [c])]; simp [c]
    · rw [List.filter_cons_of_neg (by simp [c]), filt_all l]; simp [c]
theorem filt_any {α : Type} {p : α → Bool} : ∀ l : List α, (!(l.filter p).isEmpty) = l.any p
  | [] => rfl
  | a :: l => by
    cases c : p a
    · rw [List.filter_cons_of_neg (by simp [c]), filt_any l]; simp [c]
    · rw [List.filter_cons_of_pos (by simp [c])]; simp [c]
theorem able_ok (h h' : Bool) {l : List NS} {u : NS} (gl : GL l) (gu : GS u) (z1 : l.length ≤ 60) (z2 : ∀ s ∈ l, s.length ≤ 60) : den__law_able [.val (sq h (l.map setT)), .val (setE h' u)] = .ok (.d (.bl (ableB l u))) [.no, .no] := by
  have h1 : ∀ nd ∈ l, c1__law_able (setT nd) [.val (sq h (l.map setT)), .val (setE h' u), .no, .no] = .ok (if nd.all (fun x => inB x u) then some (setT nd) else none) [.val (sq h (l.map setT)), .val (setE h' u), .no, .no] := fun nd hnd => by
    have hc : compL c0__law_able (nd.map nmD) [.val (sq h (l.map setT)), .val (setE h' u), .val (setT nd), .no] [] = .ok ((nd.filter fun x => !inB x u).map nmD) [.val (sq h (l.map setT)), .val (setE h' u), .val (setT nd), .no] :=
      compL_filt nd (fun x hx => c0_able_ok (gl nd hnd x hx) gu) (Nat.le_of_lt (l60' (z2 nd hnd)))
    have it : (setT nd).items = some (nd.map nmD) := rfl
    have ge : gEq false (.lst ((nd.filter fun x => !inB x u).map nmD)) (.lst []) = some (.d (.bl (nd.all fun x => inB x u))) := by
      rw [gEq_nil false (nms_ok (fun x hx => gl nd hnd x (List.mem_filter.mp hx).1) 59), List.isEmpty_map, filt_all, Bool.false_bne]
    have l0 : (([] : List D).length ≤ lim) = True := eq_true (by decide)
    generalize nd.all (fun x => inB x u) = bb at ge ⊢
    cases bb
    · simp only [c1__law_able, evl, evl2, evl3, evl4, evl6, prim, slotsE, if_true, it, hc, l0, ge, Bool.false_eq_true, if_false]
    · simp only [c1__law_able, evl, evl2, evl3, evl4, evl6, prim, slotsE, if_true, it, hc, l0, ge]
  have hc := compL_filt l h1 (Nat.le_of_lt (l60' z1))
  have it : (sq h (l.map setT)).items = some (l.map setT) := sq_items h _
  have ge : gEq true (.lst ((l.filter fun nd => nd.all fun x => inB x u).map setT)) (.lst []) = some (.d (.bl (ableB l u))) := by
    rw [gEq_nil true (okL_of fun d hd => by
      obtain ⟨s, hs, rfl⟩ := List.mem_map.mp hd
      exact set_ok (gl s (List.mem_filter.mp hs).1) true 58), List.isEmpty_map, Bool.true_bne, filt_any]; rfl
  have l0 : (([] : List D).length ≤ lim) = True := eq_true (by decide)
  show DR.of (f__law_able [.val (sq h (l.map setT)), .val (setE h' u), .no, .no]) [.val (sq h (l.map setT)), .val (setE h' u)] = _
  rw [nE__law_able]
  simp only [evl, evl2, evl3, evl4, evl6, prim, slotsE, it, hc, if_true, l0, ge]
/-! lists -/
mutual
def lstD : D → D
  | .tup xs => .lst (lstDL xs)
  | .lst xs => .lst (lstDL xs)
  | .non => .non
  | .bl b => .bl b
  | .int i => .int i
  | .str x => .str x
  | .dct a b c => .dct a b c
  | .exc a b => .exc a b
  | .scr a => .scr a
  | .ptp a => .ptp a
def lstDL : List D → List D
  | [] => []
  | d :: ds => lstD d :: lstDL ds
end
def lstR : D → PR
  | .tup xs => .o (.l (lstDL xs))
  | .lst xs => .o (.l (lstDL xs))
  | d => .d (lstD d)
theorem lstR_D (d : D) : (lstR d).toD = lstD d := by cases d <;> simp [lstR, lstD, PR.toD, OV.toD]
theorem lstDL_map : ∀ ds : List D, lstDL ds = ds.map lstD
  | [] => rfl
  | d :: ds => by simp only [lstDL, List.map_cons, lstDL_map ds]
theorem lstD_sq (h : Bool) (xs : List D) : lstD (sq h xs) = .lst (xs.map lstD) := by
  cases h
  · show lstD (.lst xs) = _; simp only [lstD, lstDL_map]
  · show lstD (.tup xs) = _; simp only [lstD, lstDL_map]
theorem lstD_set (h : Bool) (s : NS) : lstD (setE h s) = setE false s := by
  unfold setE
  rw [lstD_sq, List.map_map]; rfl
theorem lstD_lot (h : Bool) (l : List NS) : lstD (lotE h l) = lotE false l := by
  unfold lotE
  rw [lstD_sq, List.map_map]
  show D.lst _ = D.lst _
  congr 1
  exact List.map_congr_left fun s _ => lstD_set h s
theorem lstD_row (h : Bool) (r : Nm × List NS) : lstD (rowE h r) = rowE false r := by
  unfold rowE
  rw [lstD_sq]
  simp only [List.map_cons, List.map_nil, lstD_lot]; rfl
theorem lists_ok : ∀ (n : Nat) (d : D), okS n d = true → den__law_lists (n + 1) [.val d] = .ok (lstR d) [.no] := by
  intro n
  induction n with
  | zero =>
    intro d h
    show run 1 (f__law_lists (den__law_lists 0)) [.val d] = _
    cases d <;> first | (simp [okS] at h; done) | simp only [f__law_lists, evl, evl2, evl3, evl4, prim, slotsE, tyE, isE, lstR, lstD, Bool.false_eq_true, if_false]
  | succ n ih =>
    intro d h
    show run 1 (f__law_lists (den__law_lists (n + 1))) [.val d] = _
    have go : ∀ (xs : List D) (d : D), (d = .tup xs ∨ d = .lst xs) → (decide (xs.length < lim) && xs.all (okS n)) = true → run 1 (f__law_lists (den__law_lists (n + 1))) [.val d] = .ok (.o (.l (lstDL xs))) [.no] := fun xs d hd h => by
      simp only [Bool.and_eq_true, decide_eq_true_eq] at h
      have hc : compL (c0__law_lists (den__law_lists (n + 1))) xs [.val d, .no] [] = .ok (xs.map lstD) [.val d, .no] := by
        rw [compL_pure (h := lstD) xs [] (fun x hx => ?_) (by rw [List.length_nil]; omega)]
        · rfl
        · have e := ih x (List.all_eq_true.mp h.2 x hx)
          have q := lstR_D x
          generalize den__law_lists (n + 1) = dn at e ⊢
          simp only [c0__law_lists, evl, evl2, evl3, evl4, prim, slotsE, if_true, e, nd0, q]
      rw [nE__law_lists]
      generalize c0__law_lists (den__law_lists (n + 1)) = cc at hc ⊢
      rw [lstDL_map]
      rcases hd with rfl | rfl
      · simp only [evl, evl2, evl3, evl4, evl6, prim, slotsE, tyE, isE, if_true, hc]
      · simp only [evl, evl2, evl3, evl4, evl6, prim, slotsE, tyE, isE, if_true, hc]
    cases d with
    | tup xs =>
      unfold okS at h
      simp only [lstR]
      exact go xs _ (.inl rfl) h
    | lst xs =>
      unfold okS at h
      simp only [lstR]
      exact go xs _ (.inr rfl) h
    | non => simp only [f__law_lists, evl, evl2, evl3, evl4, prim, slotsE, tyE, isE, lstR, lstD, Bool.false_eq_true, if_false]
    | bl b => simp only [f__law_lists, evl, evl2, evl3, evl4, prim, slotsE, tyE, isE, lstR, lstD, Bool.false_eq_true, if_false]
    | int b => simp only [f__law_lists, evl, evl2, evl3, evl4, prim, slotsE, tyE, isE, lstR, lstD, Bool.false_eq_true, if_false]
    | str b => simp only [f__law_lists, evl, evl2, evl3, evl4, prim, slotsE, tyE, isE, lstR, lstD, Bool.false_eq_true, if_false]
    | _ => simp [okS] at h
theorem lists_bk {b : Bk} (g : GB b) (z : Size b) : den__law_lists 12 [.val (bkE true b)] = .ok (.o (.l (b.map (rowE false)))) [.no] := by
  rw [lists_ok 11 _ (okS_bk g z true 7)]
  show DR.ok (.o (.l (lstDL (b.map (rowE true))))) _ = _
  rw [lstDL_map, List.map_map]
  congr 3
  exact List.map_congr_left fun r _ => lstD_row true r
/-! the draws -/
theorem pick_loop {vp vn : Sl} (ds : List D) : ∀ (k : Nat) (u : List D) (rest found : NS) (s5 : Sl), Urn k u → k + ds.length < 2 ^ 60 → ds.length ≤ rest.length → rest.length + found.length ≤ 60 → s5.free = true → ∃ (u' : List D) (r' f' : NS) (s5' : Sl), Urn (k + ds.length) u' ∧ (f' ++ r').Perm (found ++ rest) ∧ f'.length = found.length + ds.length ∧
    forL b0__law_pick ds [.io (.l u), vp, vn, .own (.l (rest.map nmD)), .own (.l (found.map nmD)), s5] = .nx [.io (.l u'), vp, vn, .own (.l (r'.map nmD)), .own (.l (f'.map nmD)), s5'] := by
  induction ds with
  | nil => intro k u rest found s5 hu _ _ _ _; exact ⟨u, rest, found, s5, hu, .refl _, rfl, rfl⟩
  | cons d ds ih =>
    intro k u rest found s5 hu hk hm hl f5
    rw [List.length_cons] at hk hm
    have hlen : (rest.map nmD).length = rest.length := List.length_map ..
    obtain ⟨i, u1, i0, i1, hu1, e1⟩ := take_ok (n := (rest.length : Int)) hu (by omega) (by omega) (by
      have : (rest.length : Int).natAbs = rest.length := by omega
      rw [this]
      exact log2_few (by omega))
    obtain ⟨j, rfl⟩ : ∃ j : Nat, i = (j : Int) := ⟨i.toNat, by omega⟩
    have hj : j < rest.length := by omega
    obtain ⟨u', r', f', s5', h1, h2, h3, h4⟩ := ih (k + 1) u1 (rest.eraseIdx j) (found ++ [rest[j]]) (.val d) hu1 (by omega) (by rw [List.length_eraseIdx, if_pos hj]; omega) (by rw [List.length_eraseIdx, if_pos hj, List.length_append, List.length_singleton]; omega) rfl
    have pm : (found ++ [rest[j]] ++ rest.eraseIdx j).Perm (found ++ rest) := by
      rw [List.append_assoc]
      refine List.Perm.append_left found ?_
      exact erase_perm rest j rest[j] (List.getElem?_eq_getElem hj)
    refine ⟨u', r', f', s5', h1.mono (by rw [List.length_cons]; omega), h2.trans pm, by rw [h3, List.length_append, List.length_singleton, List.length_cons]; omega, ?_⟩
    have hpop := popAt_nm hj (by omega)
    have hll : (((found.map nmD).length < lim) = True) := eq_true (by rw [List.length_map]; exact l60' (by omega))
    have em : (found ++ [rest[j]]).map nmD = found.map nmD ++ [nmD rest[j]] := by rw [List.map_append]; rfl
    rw [em] at h4
    rw [forL_step (τ1 := [.io (.l u1), vp, vn, .own (.l ((rest.eraseIdx j).map nmD)), .own (.l (found.map nmD ++ [nmD rest[j]])), .val d])]
    · exact h4
    · simp only [b0__law_pick, evl, evl2, evl3, evl4, prim, slotsE, f5, if_true, hlen, nd1, e1, hpop, hll]
theorem min_cases (a b : Nat) : (if (b : Int) < (a : Int) then (b : Int) else (a : Int)) = ((min a b : Nat) : Int) := by
  rw [Nat.min_def]; split <;> split <;> omega
theorem pick_ok (h : Bool) {k : Nat} {u : List D} (hu : Urn k u) {ns : NS} (n : Nat) (hk : k + 100 < 2 ^ 60) (hl : ns.length ≤ 60) : ∃ (u' : List D) (fs rs : NS), Urn (k + 60) u' ∧ (fs ++ rs).Perm ns ∧ fs.length = min n ns.length ∧ den__law_pick [.io (.l u), .val (sq h (ns.map nmD)), .val (.int n)] = .ok (.o (.l (fs.map nmD))) [.io (.l u'), .no, .no] := by
  have hmn : min n ns.length ≤ ns.length := Nat.min_le_right _ _
  have hrl : (rng 0 (min n ns.length)).length = min n ns.length := by simp [rng]
  obtain ⟨u', r', f', s5', h1, h2, h3, h4⟩ := pick_loop (vp := .val (sq h (ns.map nmD))) (vn := .val (.int n)) (rng 0 (min n ns.length)) k u ns [] .no hu (by rw [hrl]; omega) (by rw [hrl]; exact hmn) (by rw [List.length_nil]; omega) rfl
  rw [hrl] at h1 h3
  refine ⟨u', f', r', h1.mono (by omega), by simpa using h2, by simpa using h3, ?_⟩
  have hlist : gList (sq h (ns.map nmD)) = some (.o (.l (ns.map nmD))) := by cases h <;> rfl
  have l0 : (([] : List D).length ≤ lim) = True := eq_true (by decide)
  have hln : ((ns.map nmD).length : Int) = (ns.length : Int) := by rw [List.length_map]
  have hs := small62 (n := min n ns.length) (by omega)
  have e0 : ([] : NS).map nmD = [] := rfl
  rw [e0] at h4
  show DR.of (f__law_pick [.io (.l u), .val (sq h (ns.map nmD)), .val (.int n), .no, .no, .no]) [.io (.l u), .val (sq h (ns.map nmD)), .val (.int n)] = _
  rw [nE__law_pick]
  simp only [evl, evl2, evl3, evl4, evl6, prim, slotsE, hlist, l0, if_true, hln, min_cases, hs, toNatI, h4]
end U
end

section
set_option Elab.async false
set_option linter.all false
set_option maxRecDepth 100000
namespace U
open PySem PySem.Spec PyProof.Rows L2
/-! all sets -/
def lt2 (a b : NS) : Bool := if a.length = b.length then ltS a b else decide (a.length < b.length)
def enc2 (s : NS) : D := .tup [.int (s.length : Int), setT s]
theorem enc2_lt (a b : NS) : (enc2 a).lt (enc2 b) = lt2 a b := by
  simp only [enc2, D.lt, D.ltL, D.eqb, set_eqb, set_lt]
  unfold lt2
  by_cases h : a.length = b.length
  · rw [if_pos h]
    have h1 : ((a.length : Int) == (b.length : Int)) = true := by simp [h]
    rw [h1, if_pos rfl]
    by_cases e : a = b
    · subst e; simp [ltS, List.lt_irrefl]
    · simp [e]
  · rw [if_neg h]
    have h1 : ((a.length : Int) == (b.length : Int)) = false := by simp; omega
    rw [h1, if_neg (by simp)]
    simp
theorem oP : Ord lt2 := ⟨fun a => by simp [lt2, ltS, List.lt_irrefl], fun a b c h1 h2 => by
    unfold lt2 at *
    by_cases e1 : a.length = b.length <;> by_cases e2 : b.length = c.length
    · rw [if_pos e1] at h1; rw [if_pos e2] at h2; rw [if_pos (e1.trans e2)]; exact oS.tr _ _ _ h1 h2
    · rw [if_neg e2, decide_eq_true_eq] at h2; rw [if_neg (by omega), decide_eq_true_eq]; omega
    · rw [if_neg e1, decide_eq_true_eq] at h1; rw [if_neg (by omega), decide_eq_true_eq]; omega
    · rw [if_neg e1, decide_eq_true_eq] at h1; rw [if_neg e2, decide_eq_true_eq] at h2; rw [if_neg (by omega), decide_eq_true_eq]; omega,
  fun a b => by
    unfold lt2
    by_cases e : a.length = b.length
    · rw [if_pos e, if_pos e.symm]; exact oS.tri a b
    · rw [if_neg e, if_neg (fun z => e z.symm), decide_eq_true_eq, decide_eq_true_eq]
      rcases Nat.lt_or_ge a.length b.length with z | z
      · exact .inl z
      · exact .inr (.inr (by omega))⟩
def pwF : List NS → NS → List NS
  | acc, [] => acc
  | acc, t :: ts => pwF (acc ++ acc.map (· ++ [t])) ts
def setsB (ns : NS) : List NS := isort lt2 (pwF [[]] (isort ltN ns))
theorem pwF_len : ∀ (l : NS) (acc : List NS), (pwF acc l).length = acc.length * 2 ^ l.length
  | [], acc => by simp [pwF]
  | t :: l, acc => by
    unfold pwF
    rw [pwF_len l, List.length_append, List.length_map, List.length_cons, Nat.pow_succ]
    rw [← Nat.two_mul, Nat.mul_comm 2, Nat.mul_assoc, Nat.mul_comm 2]
theorem mem_pwF : ∀ (l : NS) (acc : List NS) (s : NS), s ∈ pwF acc l ↔ ∃ a t, a ∈ acc ∧ t.Sublist l ∧ s = a ++ t
  | [], acc, s => by
    unfold pwF
    constructor
    · exact fun h => ⟨s, [], h, .refl _, by simp⟩
    · rintro ⟨a, t, ha, ht, rfl⟩
      rw [List.sublist_nil.mp ht, List.append_nil]; exact ha
  | x :: l, acc, s => by
    unfold pwF
    rw [mem_pwF l]
    constructor
    · rintro ⟨a, t, ha, ht, rfl⟩
      rcases List.mem_append.mp ha with ha | ha
      · exact ⟨a, t, ha, ht.cons _, rfl⟩
      · obtain ⟨a', ha', rfl⟩ := List.mem_map.mp ha
        exact ⟨a', x :: t, ha', ht.cons_cons _, by simp⟩
    · rintro ⟨a, t, ha, ht, rfl⟩
      cases ht with
      | cons _ ht => exact ⟨a, t, List.mem_append_left _ ha, ht, rfl⟩
      | @cons_cons t' _ _ ht => exact ⟨a ++ [x], t', List.mem_append_right _ (List.mem_map.mpr ⟨a, ha, rfl⟩), ht, by simp⟩
theorem pwF_nodup : ∀ (l : NS) (acc : List NS), l.Nodup → acc.Nodup → (∀ a ∈ acc, ∀ x ∈ l, x ∉ a) → (pwF acc l).Nodup
  | [], acc, _, h, _ => h
  | x :: l, acc, hl, ha, hx => by
    obtain ⟨l1, l2⟩ := List.nodup_cons.mp hl
    unfold pwF
    refine pwF_nodup l _ l2 ?_ ?_
    · rw [List.nodup_append]
      refine ⟨ha, ?_, fun a h1 b h2 e => ?_⟩
      · exact (List.pairwise_map.mpr (ha.imp fun {a b} hne e => hne (List.append_cancel_right e)))
      · obtain ⟨c, hc, rfl⟩ := List.mem_map.mp h2
        exact hx a h1 x (List.mem_cons_self ..) (by rw [e]; simp)
    · intro a h y hy
      rcases List.mem_append.mp h with h | h
      · exact hx a h y (List.mem_cons_of_mem _ hy)
      · obtain ⟨c, hc, rfl⟩ := List.mem_map.mp h
        rw [List.mem_append, List.mem_singleton]
        rintro (z | rfl)
        · exact hx c hc y (List.mem_cons_of_mem _ hy) z
        · exact l1 hy
theorem mem_sets {ns s : NS} : s ∈ setsB ns ↔ s.Sublist (isort ltN ns) := by
  unfold setsB
  rw [(isort_perm _).mem_iff, mem_pwF]
  constructor
  · rintro ⟨a, t, ha, ht, rfl⟩
    rw [List.mem_singleton.mp ha]; exact ht
  · exact fun h => ⟨[], s, List.mem_singleton.mpr rfl, h, rfl⟩
theorem sets_up {ns : NS} (h : ns.Nodup) : Up lt2 (setsB ns) :=
  isort_up oP (pwF_nodup _ _ ((isort_perm ns).nodup_iff.mpr h) (by simp) fun a ha x _ => by rw [List.mem_singleton.mp ha]; exact List.not_mem_nil)
theorem sort_pairs {l : List NS} (gl : GL l) (hl : l.length ≤ lim) : CanSort (l.map enc2) where
  len := by rw [List.length_map]; exact hl
  ok := fun d hd => by
    obtain ⟨x, hx, rfl⟩ := List.mem_map.mp hd
    have h1 : (setT x).ok 59 = true := set_ok (gl x hx) true 58
    simp only [enc2, D.ok, D.okL, h1, Bool.and_self]
  non := fun d hd => by obtain ⟨x, hx, rfl⟩ := List.mem_map.mp hd; rfl
  like := fun d hd e he => by
    obtain ⟨x, _, rfl⟩ := List.mem_map.mp hd
    obtain ⟨y, _, rfl⟩ := List.mem_map.mp he
    simp only [enc2, D.like, D.likeL, set_like, Bool.and_self]
theorem sets_loop {v0 : Sl} : ∀ (ts : NS) (acc : List NS) (s2 : Sl), s2.free = true → acc.length * 2 ^ ts.length ≤ 256 → (∀ a ∈ acc, a.length + ts.length ≤ 8) → ∃ s2', forL b0__law_sets (ts.map nmD) [v0, .own (.l (acc.map setT)), s2, .no] = .nx [v0, .own (.l ((pwF acc ts).map setT)), s2', .no]
  | [], acc, s2, _, _, _ => ⟨s2, rfl⟩
  | t :: ts, acc, s2, f2, hl, ha => by
    rw [List.length_cons, Nat.pow_succ] at hl
    have hpos : 0 < 2 ^ ts.length := Nat.pow_pos (by decide)
    have hl2 : (acc ++ acc.map (· ++ [t])).length * 2 ^ ts.length ≤ 256 := by
      rw [List.length_append, List.length_map, ← Nat.two_mul, Nat.mul_comm 2, Nat.mul_assoc, Nat.mul_comm 2]; exact hl
    have hac : acc.length ≤ 256 := by
      have : acc.length * 1 ≤ acc.length * (2 ^ ts.length * 2) := Nat.mul_le_mul_left _ (by omega)
      omega
    obtain ⟨s2', e⟩ := sets_loop (v0 := v0) ts (acc ++ acc.map (· ++ [t])) (.val (nmD t)) rfl hl2 (fun a h => by
      rcases List.mem_append.mp h with h | h
      · have := ha a h; rw [List.length_cons] at this; omega
      · obtain ⟨c, hc, rfl⟩ := List.mem_map.mp h
        have := ha c hc
        rw [List.length_cons] at this
        rw [List.length_append, List.length_singleton]; omega)
    refine ⟨s2', ?_⟩
    have hc : compL c0__law_sets (acc.map setT) [v0, .val (.lst (acc.map setT)), .val (nmD t), .no] [] = .ok ((acc.map (· ++ [t])).map setT) [v0, .val (.lst (acc.map setT)), .val (nmD t), .no] := by
      rw [compL_over (h := fun a => setT (a ++ [t])) acc (fun a h => ?_) (lim_big (by omega)), List.map_map]
      · rfl
      · have hk : (((a.map nmD).length + [nmD t].length ≤ lim) = True) := eq_true (by
          have := ha a h
          rw [List.length_cons] at this
          rw [List.length_map, List.length_singleton]; exact lim_big (by omega))
        have es : setT (a ++ [t]) = .tup (a.map nmD ++ [nmD t]) := by unfold setT; rw [List.map_append]; rfl
        have l1 : (([nmD t].length ≤ lim) = True) := eq_true (by show 1 ≤ lim; decide)
        rw [es]
        simp only [c0__law_sets, setT, evl, evl2, evl3, evl4, prim, slotsE, if_true, hk, l1]
    have hk : (((acc.map setT).length + ((acc.map (· ++ [t])).map setT).length ≤ lim) = True) := eq_true (by rw [List.length_map, List.length_map, List.length_map]; exact lim_big (by omega))
    have it : (D.lst (acc.map setT)).items = some (acc.map setT) := rfl
    have em : (acc ++ acc.map (· ++ [t])).map setT = acc.map setT ++ (acc.map (· ++ [t])).map setT := List.map_append ..
    rw [em] at e
    rw [List.map_cons, forL_step (τ1 := [v0, .own (.l (acc.map setT ++ (acc.map (· ++ [t])).map setT)), .val (nmD t), .no])]
    · exact e
    · simp only [b0__law_sets, evl, evl2, evl3, evl4, evl6, prim, slotsE, f2, if_true, it, hc, hk]
theorem sets_ok (h : Bool) {ns : NS} (gs : GS ns) (hl : ns.length ≤ 8) : den__law_sets [.val (sq h (ns.map nmD))] = .ok (.o (.l ((setsB ns).map setT))) [.no] := by
  have hil : (isort ltN ns).length = ns.length := (isort_perm ns).length_eq
  have h2 : 2 ^ ns.length ≤ 256 := by
    have : 2 ^ ns.length ≤ 2 ^ 8 := Nat.pow_le_pow_right (by decide) hl
    omega
  obtain ⟨s2', e⟩ := sets_loop (v0 := .val (sq h (ns.map nmD))) (isort ltN ns) [[]] .no rfl (by rw [hil]; simpa using h2) (fun a ha => by rw [List.mem_singleton.mp ha, hil]; simpa using hl)
  have gso := gSorted_nms h gs (lim_big (by omega))
  have gp : GL (pwF [[]] (isort ltN ns)) := fun s hs x hx => by
    obtain ⟨a, t, ha, ht, rfl⟩ := (mem_pwF _ _ _).mp hs
    rw [List.mem_singleton.mp ha, List.nil_append] at hx
    exact gs x ((isort_perm ns).mem_iff.mp (ht.subset hx))
  have hpl : (pwF [[]] (isort ltN ns)).length ≤ 1000 := by rw [pwF_len, hil]; simp; omega
  generalize hP : pwF [[]] (isort ltN ns) = P at e gp hpl
  have c1 : compL c1__law_sets (P.map setT) [.val (sq h (ns.map nmD)), .val (.lst (P.map setT)), s2', .no] [] = .ok (P.map enc2) [.val (sq h (ns.map nmD)), .val (.lst (P.map setT)), s2', .no] :=
    compL_over P (fun s _ => by
      have hgl : gLen (setT s) = some (.d (.int (s.length : Int))) := by show some (PR.d (D.int ((s.map nmD).length : Nat))) = _; rw [List.length_map]
      simp only [c1__law_sets, enc2, evl, evl2, evl3, evl4, prim, slotsE, if_true, hgl, List.length_cons, List.length_nil, Nat.reduceAdd, limE]) (lim_big hpl)
  have gs2 : gSorted (.lst (P.map enc2)) = some (.o (.l ((isort lt2 P).map enc2))) := by
    have := sq_gSorted false (P.map enc2)
    rw [canSort_iff (sort_pairs gp (lim_big hpl)), sortD_map enc2_lt] at this
    exact this
  have c2 : compL c2__law_sets ((isort lt2 P).map enc2) [.val (sq h (ns.map nmD)), .val (.lst (P.map setT)), s2', .no] [] = .ok ((isort lt2 P).map setT) [.val (sq h (ns.map nmD)), .val (.lst (P.map setT)), s2', .no] :=
    compL_over (isort lt2 P) (fun s _ => by
      have hi : gIx (enc2 s) (.int 1) = some (.d (setT s)) := rfl
      simp only [c2__law_sets, evl, evl2, evl3, evl4, prim, slotsE, if_true, hi]) (lim_big (by rw [(isort_perm P).length_eq]; exact hpl))
  have i1 : (D.lst ((isort ltN ns).map nmD)).items = some ((isort ltN ns).map nmD) := rfl
  have i2 : (D.lst (P.map setT)).items = some (P.map setT) := rfl
  have i3 : (D.lst ((isort lt2 P).map enc2)).items = some ((isort lt2 P).map enc2) := rfl
  have e0 : ([[]] : List NS).map setT = [.tup []] := rfl
  rw [e0] at e
  have l0 : (([] : List D).length ≤ lim) = True := eq_true (by decide)
  have l1 : (([D.tup []] : List D).length ≤ lim) = True := eq_true (by decide)
  unfold setsB
  rw [hP]
  show DR.of (f__law_sets [.val (sq h (ns.map nmD)), .no, .no, .no]) [.val (sq h (ns.map nmD))] = _
  rw [nE__law_sets]
  simp only [evl, evl2, evl3, evl4, evl6, prim, slotsE, l0, l1, if_true, gso, i1, e, i2, c1, gs2, i3, c2]
end U
end

section
set_option Elab.async false
set_option linter.all false
set_option maxRecDepth 100000
namespace U
open PySem PySem.Spec PyProof.Rows L2
def pool11 : NS := [[97], [98], [99], [100], [101], [102], [97, 98], [98, 97], [111, 114, 98], [122], [97, 98, 99, 100, 101, 102, 103, 104]]
theorem pool_nd : pool11.Nodup := by decide
theorem pool_good : GS pool11 := fun x hx => by
  have h : pool11.all (fun x => x.all (· < 0x110000)) = true := by decide
  exact List.all_eq_true.mp h x hx
/-- some of these, drawn, then sorted -/
theorem drawn {fs rs ns : NS} (h : (fs ++ rs).Perm ns) (nd : ns.Nodup) : fs.Nodup ∧ ∀ x ∈ fs, x ∈ ns := by
  have n2 := h.nodup_iff.mpr nd
  exact ⟨(List.nodup_append.mp n2).1, fun x hx => h.mem_iff.mp (List.mem_append_left _ hx)⟩
theorem tags_ok {k : Nat} {u : List D} (hu : Urn k u) (n : Nat) (hk : k + 100 < 2 ^ 60) (hn : n ≤ 8) : ∃ (u' : List D) (ns : NS), Urn (k + 60) u' ∧ Up ltN ns ∧ ns.length ≤ n ∧ GS ns ∧ den__law_tags [.io (.l u), .val (.int n)] = .ok (.d (setT ns)) [.io (.l u'), .no] := by
  obtain ⟨u', fs, rs, h1, h2, h3, h4⟩ := pick_ok false hu (ns := pool11) n hk (by decide)
  obtain ⟨nf, sf⟩ := drawn h2 pool_nd
  have gf : GS fs := fun x hx => pool_good x (sf x hx)
  have lf : fs.length ≤ n := by rw [h3]; exact Nat.min_le_left _ _
  have gso : gSorted (.lst (fs.map nmD)) = some (.o (.l ((isort ltN fs).map nmD))) := gSorted_nms false gf (lim_big (by omega))
  refine ⟨u', isort ltN fs, h1, isort_up oN nf, by rw [(isort_perm fs).length_eq]; exact lf, fun x hx => gf x ((isort_perm fs).mem_iff.mp hx), ?_⟩
  have h4' : den__law_pick [.io (.l u), .val (.lst [.str [97], .str [98], .str [99], .str [100], .str [101], .str [102], .str [97, 98], .str [98, 97], .str [111, 114, 98], .str [122], .str [97, 98, 99, 100, 101, 102, 103, 104]]), .val (.int n)] = .ok (.o (.l (fs.map nmD))) [.io (.l u'), .no, .no] := h4
  have et : setT (isort ltN fs) = .tup ((isort ltN fs).map nmD) := rfl
  rw [et]
  simp only [den__law_tags, f__law_tags, evl, evl2, evl3, evl4, prim, slotsE, if_true, List.length_cons, List.length_nil, Nat.reduceAdd, limE, nd1, h4', gso]
/-- lots of a unit -/
def LotOk (ns : NS) (l : List NS) : Prop := ∀ s ∈ l, Up ltN s ∧ (∀ x ∈ s, x ∈ ns) ∧ s.length ≤ 3
theorem lots_loop {ns : NS} (un : Up ltN ns) (gn : GS ns) (zn : ns.length ≤ 8) {v2 v3 v4 : Sl} (ds : List D) : ∀ (k : Nat) (u : List D) (acc : List NS), Urn k u → k + 100 * ds.length < 2 ^ 59 → acc.length + ds.length ≤ 60 → LotOk ns acc → ∃ (u' : List D) (l : List NS), Urn (k + 100 * ds.length) u' ∧ LotOk ns l ∧ l.length = acc.length + ds.length ∧
    compL c0__law_book ds [.io (.l u), .val (setT ns), v2, v3, v4, .no] (acc.map setT) = .ok (l.map setT) [.io (.l u'), .val (setT ns), v2, v3, v4, .no] := by
  induction ds with
  | nil => intro k u acc hu _ _ ha; exact ⟨u, acc, hu, ha, rfl, rfl⟩
  | cons d ds ih =>
    intro k u acc hu hk hl ha
    rw [List.length_cons] at hk hl
    obtain ⟨i, u1, i0, i1, hu1, e1⟩ := take_ok (n := 3) hu (by omega) (by decide) (by decide)
    obtain ⟨m, hm⟩ : ∃ m : Nat, 1 + i = (m : Int) := ⟨(1 + i).toNat, by omega⟩
    obtain ⟨u2, fs, rs, h1, h2, h3, h4⟩ := pick_ok true hu1 (ns := ns) m (by omega) (by omega)
    obtain ⟨nf, sf⟩ := drawn h2 (up_nodup oN un)
    have gf : GS fs := fun x hx => gn x (sf x hx)
    have lf : fs.length ≤ 3 := by rw [h3]; have := Nat.min_le_left m ns.length; omega
    have gso : gSorted (.lst (fs.map nmD)) = some (.o (.l ((isort ltN fs).map nmD))) := gSorted_nms false gf (lim_big (by omega))
    have ha2 : LotOk ns (acc ++ [isort ltN fs]) := fun s hs => by
      rcases List.mem_append.mp hs with hs | hs
      · exact ha s hs
      · rw [List.mem_singleton.mp hs]
        exact ⟨isort_up oN nf, fun x hx => sf x ((isort_perm fs).mem_iff.mp hx), by rw [(isort_perm fs).length_eq]; exact lf⟩
    obtain ⟨u', l, q1, q2, q3, q4⟩ := ih (k + 1 + 60) u2 (acc ++ [isort ltN fs]) h1 (by omega) (by rw [List.length_append, List.length_singleton]; omega) ha2
    refine ⟨u', l, q1.mono (by rw [List.length_cons]; omega), q2, by rw [q3, List.length_append, List.length_singleton, List.length_cons]; omega, ?_⟩
    have h4' : den__law_pick [.io (.l u1), .val (setT ns), .val (.int (m : Int))] = .ok (.o (.l (fs.map nmD))) [.io (.l u2), .no, .no] := h4
    have step : c0__law_book d [.io (.l u), .val (setT ns), v2, v3, v4, .no] = .ok (some (setT (isort ltN fs))) [.io (.l u2), .val (setT ns), v2, v3, v4, .no] := by
      have et : setT (isort ltN fs) = .tup ((isort ltN fs).map nmD) := rfl
      rw [et]
      simp only [c0__law_book, evl, evl2, evl3, evl4, prim, slotsE, if_true, nd1, e1, hm, h4', gso]
    have hlt : (acc.map setT).length < lim := by rw [List.length_map]; exact l60' (by omega)
    have em : (acc ++ [isort ltN fs]).map setT = acc.map setT ++ [setT (isort ltN fs)] := by rw [List.map_append]; rfl
    rw [em] at q4
    show (match c0__law_book d [.io (.l u), .val (setT ns), v2, v3, v4, .no] with
      | .ok (some z) τ1 => if (acc.map setT).length < lim then compL c0__law_book ds τ1 (acc.map setT ++ [z]) else .stuck
      | .ok none τ1 => compL c0__law_book ds τ1 (acc.map setT)
      | _ => .stuck) = _
    rw [step]
    show (if (acc.map setT).length < lim then compL c0__law_book ds [.io (.l u2), .val (setT ns), v2, v3, v4, .no] (acc.map setT ++ [setT (isort ltN fs)]) else .stuck) = _
    rw [if_pos hlt, q4]
/-- a drawn row -/
def RowOk (ns : NS) (r : Nm × List NS) : Prop := r.2.length ≤ 4 ∧ Up ltS r.2 ∧ LotOk ns r.2
theorem b0_book_ok {ns : NS} (un : Up ltN ns) (gn : GS ns) (zn : ns.length ≤ 8) {k : Nat} {u : List D} (hu : Urn k u) (hk : k + 1000 < 2 ^ 59) (t : Nm) (acc : Bk) (ha : acc.length ≤ 60) (s3 s4 : Sl) (f3 : s3.free = true) (f4 : s4.free = true) :
    ∃ (u' : List D) (l : List NS) (s4' : Sl), Urn (k + 1000) u' ∧ RowOk ns (t, l) ∧ s4'.free = true ∧ b0__law_book (nmD t) [.io (.l u), .val (setT ns), .own (.l (acc.map (rowE true))), s3, s4, .no] = .nx [.io (.l u'), .val (setT ns), .own (.l ((acc ++ [(t, l)]).map (rowE true))), .val (nmD t), s4', .no] := by
  obtain ⟨i, u1, i0, i1, hu1, e1⟩ := take_ok (n := 4) hu (by omega) (by decide) (by decide)
  obtain ⟨m, rfl⟩ : ∃ m : Nat, i = (m : Int) := ⟨i.toNat, by omega⟩
  have hm : m ≤ 3 := by omega
  have hrl : (rng 0 m).length = m := by simp [rng]
  obtain ⟨u2, l, q1, q2, q3, q4⟩ := lots_loop un gn zn (v2 := .own (.l (acc.map (rowE true)))) (v3 := .val (nmD t)) (v4 := s4) (rng 0 m) (k + 1) u1 [] hu1 (by rw [hrl]; omega) (by rw [hrl, List.length_nil]; omega) (fun s hs => by cases hs)
  rw [hrl] at q1 q3
  rw [List.length_nil, Nat.zero_add] at q3
  obtain ⟨j, u3, j0, j1, hu3, e3⟩ := take_ok (n := 3) q1 (by omega) (by decide) (by decide)
  have hl2 : ∃ l2 : List NS, LotOk ns l2 ∧ l2.length ≤ 4 ∧ gAdd (.lst (l.map setT)) (.lst (List.replicate (if (j == 0) = true then 1 else 0) (D.tup []))) = some (.o (.l (l2.map setT))) := by
    cases c : (j == 0)
    · refine ⟨l, q2, by omega, ?_⟩
      show (if (l.map setT).length + ([] : List D).length ≤ lim then some (PR.o (.l (l.map setT ++ []))) else none) = _
      rw [if_pos (by rw [List.length_map, List.length_nil]; exact lim_big (by omega)), List.append_nil]
    · refine ⟨l ++ [[]], fun s hs => ?_, by rw [List.length_append, List.length_singleton]; omega, ?_⟩
      · rcases List.mem_append.mp hs with hs | hs
        · exact q2 s hs
        · rw [List.mem_singleton.mp hs]; exact ⟨List.Pairwise.nil, fun x hx => (by cases hx), by decide⟩
      · show (if (l.map setT).length + [D.tup []].length ≤ lim then some (PR.o (.l (l.map setT ++ [D.tup []]))) else none) = _
        rw [if_pos (by rw [List.length_map, List.length_singleton]; exact lim_big (by omega)), List.map_append]; rfl
  obtain ⟨l2, w1, w2, w3⟩ := hl2
  have gl2 : GL l2 := fun s hs x hx => gn x ((w1 s hs).2.1 x hx)
  have hss : gSS (.lst (l2.map setT)) = some (.o (.l ((sof' ltS l2).map setT))) := gSS_sets false gl2 (lim_big (by omega)) (Nat.lt_of_le_of_lt (by
    have : ∀ l : List NS, (dd l).length ≤ l.length := fun l => by
      induction l with
      | nil => exact Nat.le_refl _
      | cons a l ih => unfold dd; split <;> simp only [List.length_cons] <;> omega
    exact this l2) (by omega))
  have hgm : gMul (.lst [.tup []]) (.int (if (j == 0) = true then 1 else 0)) = some (.o (.l (List.replicate (if (j == 0) = true then 1 else 0) (D.tup [])))) := by
    cases (j == 0) <;> rfl
  have hsl : (sof' ltS l2).length ≤ 4 := by
    have : (sof' ltS l2).length ≤ l2.length := nodup_sub (up_nodup oS (sof_up oS l2)) fun x hx => sof_mem.mp hx
    omega
  refine ⟨u3, sof' ltS l2, .own (.l (l2.map setT)), hu3.mono (by omega), ⟨hsl, sof_up oS l2, fun s hs => w1 s (sof_mem.mp hs)⟩, rfl, ?_⟩
  have hs62 := small62 (n := m) (by omega)
  have hll : (((acc.map (rowE true)).length < lim) = True) := eq_true (by rw [List.length_map]; exact l60' ha)
  have em : (acc ++ [(t, sof' ltS l2)]).map (rowE true) = acc.map (rowE true) ++ [.tup [nmD t, .tup ((sof' ltS l2).map setT)]] := by rw [List.map_append]; rfl
  have e0 : ([] : List NS).map setT = [] := rfl
  rw [e0] at q4
  have l0 : (([] : List D).length ≤ lim) = True := eq_true (by decide)
  have l1 : (([D.tup []] : List D).length ≤ lim) = True := eq_true (by decide)
  have l2' : (([nmD t, D.tup ((sof' ltS l2).map setT)] : List D).length ≤ lim) = True := eq_true (by show 2 ≤ lim; decide)
  rw [em]
  simp only [b0__law_book, evl, evl2, evl3, evl4, evl6, prim, slotsE, f3, f4, if_true, nd1, e1, hs62, toNatI, q4]
  simp only [evl, evl2, evl3, evl4, evl6, prim, slotsE, if_true, nd1, e3, l0, l1, Bool.false_bne, hgm, w3, hss, l2', hll]
theorem book_loop {ns : NS} (un : Up ltN ns) (gn : GS ns) (zn : ns.length ≤ 8) : ∀ (ts : NS) (k : Nat) (u : List D) (acc : Bk) (s3 s4 : Sl), Urn k u → k + 1000 * ts.length + 1000 < 2 ^ 59 → acc.length + ts.length ≤ 60 → (∀ r ∈ acc, RowOk ns r) → s3.free = true → s4.free = true → ∃ (u' : List D) (b : Bk) (s3' s4' : Sl), Urn (k + 1000 * ts.length) u' ∧ (∀ r ∈ b, RowOk ns r) ∧ b.map (·.1) = acc.map (·.1) ++ ts ∧
    forL b0__law_book (ts.map nmD) [.io (.l u), .val (setT ns), .own (.l (acc.map (rowE true))), s3, s4, .no] = .nx [.io (.l u'), .val (setT ns), .own (.l (b.map (rowE true))), s3', s4', .no]
  | [], k, u, acc, s3, s4, hu, _, _, ha, _, _ => ⟨u, acc, s3, s4, hu, ha, by simp, rfl⟩
  | t :: ts, k, u, acc, s3, s4, hu, hk, hl, ha, f3, f4 => by
    rw [List.length_cons] at hk hl
    obtain ⟨u1, l, s4', h1, h2, h3, h4⟩ := b0_book_ok un gn zn hu (by omega) t acc (by omega) s3 s4 f3 f4
    obtain ⟨u', b, t3, t4, q1, q2, q3, q4⟩ := book_loop un gn zn ts (k + 1000) u1 (acc ++ [(t, l)]) (.val (nmD t)) s4' h1 (by omega) (by rw [List.length_append, List.length_singleton]; omega) (fun r hr => by
      rcases List.mem_append.mp hr with hr | hr
      · exact ha r hr
      · rw [List.mem_singleton.mp hr]; exact h2) rfl h3
    refine ⟨u', b, t3, t4, q1.mono (by rw [List.length_cons]; omega), q2, by rw [q3]; simp, ?_⟩
    rw [List.map_cons, forL_step h4]
    exact q4
theorem book_ok {k : Nat} {u : List D} (hu : Urn k u) {ns : NS} (un : Up ltN ns) (gn : GS ns) (zn : ns.length ≤ 8) (hk : k + 10000 < 2 ^ 59) : ∃ (u' : List D) (b : Bk), Urn (k + 10000) u' ∧ b.map (·.1) = ns ∧ (∀ r ∈ b, RowOk ns r) ∧ den__law_book [.io (.l u), .val (setT ns)] = .ok (.d (.ptp (b.map (rowE true)))) [.io (.l u'), .no] := by
  obtain ⟨u', b, s3, s4, q1, q2, q3, q4⟩ := book_loop un gn zn ns k u [] .no .no hu (by omega) (by rw [List.length_nil]; omega) (fun r hr => by cases hr) rfl rfl
  refine ⟨u', b, q1.mono (by omega), by simpa using q3, q2, ?_⟩
  have it : (setT ns).items = some (ns.map nmD) := rfl
  have e0 : ([] : Bk).map (rowE true) = [] := rfl
  rw [e0] at q4
  have l0 : (([] : List D).length ≤ lim) = True := eq_true (by decide)
  show DR.of (f__law_book [.io (.l u), .val (setT ns), .no, .no, .no, .no]) [.io (.l u), .val (setT ns)] = _
  rw [nE__law_book]
  simp only [evl, evl2, evl3, evl4, evl6, prim, slotsE, l0, if_true, it, q4]
  rfl
end U
end

section
set_option Elab.async false
set_option linter.all false
set_option maxRecDepth 100000
namespace U
open PySem PySem.Spec PyProof.Rows L2
/-! the plain law of k74: needs that fit places -/
theorem bool_iff {a b : Bool} (h : a = true ↔ b = true) : a = b := by cases a <;> cases b <;> simp_all
theorem able_iff {l : List NS} {u : NS} : ableB l u = true ↔ ∃ nd ∈ l, ∀ x ∈ nd, x ∈ u := by
  unfold ableB
  rw [List.any_eq_true]
  refine ⟨fun ⟨nd, h1, h2⟩ => ⟨nd, h1, fun x hx => inB_iff.mp (List.all_eq_true.mp h2 x hx)⟩, fun ⟨nd, h1, h2⟩ => ⟨nd, h1, List.all_eq_true.mpr fun x hx => inB_iff.mpr (h2 x hx)⟩⟩
def subB (a b : NS) : Bool := a.all fun x => inB x b
theorem subB_iff {a b : NS} : subB a b = true ↔ ∀ x ∈ a, x ∈ b := by
  unfold subB; rw [List.all_eq_true]
  exact ⟨fun h x hx => inB_iff.mp (h x hx), fun h x hx => inB_iff.mpr (h x hx)⟩
def stepN (found : List (List NS)) (lot : NS) : List (List NS) := found ++ (found.filter fun own => (own.all fun its => !(subB its lot || subB lot its))).map fun own => isort ltS (own ++ [lot])
def allN (lots : List NS) : List (List NS) := lots.foldl stepN [[]]
theorem allN_keep : ∀ (lots : List NS) {found : List (List NS)} {own : List NS}, own ∈ found → own ∈ lots.foldl stepN found
  | [], _, _, h => h
  | lot :: lots, _, _, h => allN_keep lots (List.mem_append_left _ h)
theorem allN_all : ∀ (lots : List NS) {found : List (List NS)} {own c : List NS}, own ∈ found → c.Sublist lots → (∀ x ∈ own, ∀ y ∈ c, (subB x y || subB y x) = false) → c.Pairwise (fun x y => (subB x y || subB y x) = false) → ∃ n ∈ lots.foldl stepN found, n.Perm (own ++ c)
  | [], found, own, c, h, hs, _, _ => by
    cases List.sublist_nil.mp hs
    exact ⟨own, h, by rw [List.append_nil]⟩
  | lot :: lots, found, own, c, h, hs, hx, hp => by
    cases hs with
    | cons _ hs => exact allN_all lots (found := stepN found lot) (List.mem_append_left _ h) hs hx hp
    | cons_cons _ hs =>
      rename_i c
      rw [List.pairwise_cons] at hp
      have hm : isort ltS (own ++ [lot]) ∈ stepN found lot := List.mem_append_right _ (List.mem_map.mpr ⟨own, List.mem_filter.mpr ⟨h, List.all_eq_true.mpr fun x hx' => by rw [hx x hx' lot (List.mem_cons_self ..)]; rfl⟩, rfl⟩)
      obtain ⟨n, hn, pn⟩ := allN_all lots (found := stepN found lot) hm hs (fun x hx' y hy => by
        rcases List.mem_append.mp ((isort_perm _).mem_iff.mp hx') with q | q
        · exact hx x q y (List.mem_cons_of_mem _ hy)
        · rw [List.mem_singleton.mp q]; exact hp.1 y hy) hp.2
      refine ⟨n, hn, pn.trans ?_⟩
      have := (isort_perm (lt := ltS) (own ++ [lot])).append_right c
      rw [List.append_assoc] at this
      exact this
/-- a place: who is up, who is asked, whether it comes -/
structure Pl where
  up : NS
  nm : Nm
  ok : Bool
def fitsN (ps : List Pl) (t : Nm) (needs : List NS) : Bool := (ps.filter fun p => decide (p.nm = t) && (ableB needs p.up != p.ok)).isEmpty
def toldB (ps : List Pl) (t : Nm) (w : Bool) : List NS := (ps.filter fun p => decide (p.nm = t) && (p.ok == w)).map (·.up)
def clearB (ps : List Pl) (t : Nm) : Bool := !((toldB ps t true).any fun u => (toldB ps t false).any fun f => subB u f)
theorem fits_iff {ps : List Pl} {t : Nm} {needs : List NS} : fitsN ps t needs = true ↔ ∀ p ∈ ps, p.nm = t → ableB needs p.up = p.ok := by
  unfold fitsN
  rw [List.isEmpty_iff, List.filter_eq_nil_iff]
  constructor
  · intro h p hp e
    have := h p hp
    cases q : ableB needs p.up <;> cases r : p.ok <;> simp_all
  · intro h p hp e
    simp only [Bool.and_eq_true, decide_eq_true_eq] at e
    rw [h p hp e.1] at e
    simp at e
theorem told_mem {ps : List Pl} {t : Nm} {w : Bool} {u : NS} : u ∈ toldB ps t w ↔ ∃ p ∈ ps, p.nm = t ∧ p.ok = w ∧ p.up = u := by
  unfold toldB
  rw [List.mem_map]
  constructor
  · rintro ⟨p, hp, e⟩
    rw [List.mem_filter] at hp
    obtain ⟨h1, h2⟩ := hp
    simp only [Bool.and_eq_true, decide_eq_true_eq, beq_iff_eq] at h2
    exact ⟨p, h1, h2.1, h2.2, e⟩
  · rintro ⟨p, h1, h2, h3, h4⟩
    exact ⟨p, List.mem_filter.mpr ⟨h1, by simp [h2, h3]⟩, h4⟩
theorem clear_iff {ps : List Pl} {t : Nm} : clearB ps t = true ↔ ∀ p ∈ ps, ∀ q ∈ ps, p.nm = t → q.nm = t → p.ok = true → q.ok = false → ¬ ∀ x ∈ p.up, x ∈ q.up := by
  unfold clearB
  rw [Bool.not_eq_true', List.any_eq_false]
  constructor
  · intro h p hp q hq e1 e2 e3 e4 hs
    have := h p.up (told_mem.mpr ⟨p, hp, e1, e3, rfl⟩)
    rw [List.any_eq_true] at this
    exact this ⟨q.up, told_mem.mpr ⟨q, hq, e2, e4, rfl⟩, subB_iff.mpr hs⟩
  · intro h u hu hc
    obtain ⟨f, hf, hs⟩ := List.any_eq_true.mp hc
    obtain ⟨p, hp, e1, e3, rfl⟩ := told_mem.mp hu
    obtain ⟨q, hq, e2, e4, rfl⟩ := told_mem.mp hf
    exact h p hp q hq e1 e2 e3 e4 (subB_iff.mp hs)
theorem up_len {a b : NS} (ha : Up ltN a) (hb : Up ltN b) (h : ∀ x ∈ a, x ∈ b) (ne : a ≠ b) : a.length < b.length := by
  have h1 := nodup_sub (up_nodup oN ha) h
  rcases Nat.lt_or_eq_of_le h1 with q | q
  · exact q
  · exfalso
    apply ne
    refine up_one oN ha hb fun x => ⟨h x, fun hx => ?_⟩
    by_cases c : x ∈ a
    · exact c
    · have := nodup_sub (l := x :: a) (List.nodup_cons.mpr ⟨c, up_nodup oN ha⟩) (m := b) (fun y hy => by
        rcases List.mem_cons.mp hy with e | e
        · rw [e]; exact hx
        · exact h y e)
      rw [List.length_cons] at this
      omega
/-- below each of them a least one -/
theorem least_below {l : List NS} (hl : ∀ a ∈ l, Up ltN a) : ∀ (n : Nat) (u : NS), u.length ≤ n → u ∈ l → ∃ t ∈ l, (∀ x ∈ t, x ∈ u) ∧ ∀ s ∈ l, (∀ x ∈ s, x ∈ t) → s = t
  | n, u, hn, hu => by
    by_cases c : ∀ s ∈ l, (∀ x ∈ s, x ∈ u) → s = u
    · exact ⟨u, hu, fun x h => h, c⟩
    · have : ∃ s ∈ l, (∀ x ∈ s, x ∈ u) ∧ s ≠ u := by
        refine Classical.byContradiction fun z => c fun s hs hx => Classical.byContradiction fun ne => z ⟨s, hs, hx, ne⟩
      obtain ⟨s, hs, hx, ne⟩ := this
      have hlt := up_len (hl s hs) (hl u hu) hx ne
      cases n with
      | zero => omega
      | succ n =>
        obtain ⟨t, ht, h1, h2⟩ := least_below hl n s (by omega) hs
        exact ⟨t, ht, fun x h => hx x (h1 x h), h2⟩
theorem fit_exists {rest : NS} (nr : rest.Nodup) {ps : List Pl} {t : Nm} (hp : ∀ p ∈ ps, p.nm = t → p.up ∈ setsB rest) (hu : ∀ p ∈ ps, p.nm = t → Up ltN p.up) :
    (!((allN (setsB rest)).filter (fitsN ps t)).isEmpty) = clearB ps t := by
  rw [filt_any]
  refine bool_iff ⟨fun h => ?_, fun h => ?_⟩
  · obtain ⟨n, hn, hf⟩ := List.any_eq_true.mp h
    rw [fits_iff] at hf
    refine clear_iff.mpr fun p hp' q hq e1 e2 e3 e4 hs => ?_
    have a1 := hf p hp' e1
    have a2 := hf q hq e2
    rw [e3] at a1
    rw [e4] at a2
    obtain ⟨nd, h1, h2⟩ := able_iff.mp a1
    rw [able_iff.mpr ⟨nd, h1, fun x hx => hs x (h2 x hx)⟩] at a2
    cases a2
  · rw [clear_iff] at h
    let tr := toldB ps t true
    have htr : ∀ a ∈ tr, Up ltN a := fun a ha => by
      obtain ⟨p, hp', e1, e3, rfl⟩ := told_mem.mp ha
      exact hu p hp' e1
    let c := (setsB rest).filter fun l => inB l tr && tr.all fun s => !subB s l || decide (s = l)
    have hc : ∀ l, l ∈ c ↔ l ∈ setsB rest ∧ l ∈ tr ∧ ∀ s ∈ tr, (∀ x ∈ s, x ∈ l) → s = l := fun l => by
      show l ∈ (setsB rest).filter _ ↔ _
      rw [List.mem_filter, Bool.and_eq_true, List.all_eq_true]
      refine and_congr Iff.rfl (and_congr inB_iff ⟨fun z s hs hx => ?_, fun z s hs => ?_⟩)
      · have := z s hs
        rw [subB_iff.mpr hx] at this
        simpa using this
      · by_cases q : subB s l = true
        · rw [z s hs (subB_iff.mp q)]; simp
        · rw [Bool.not_eq_true] at q; rw [q]; rfl
    have nd : c.Nodup := ((up_nodup oP (sets_up nr))).filter _
    obtain ⟨n, hn, pn⟩ := allN_all (setsB rest) (found := [[]]) (own := []) (c := c) (List.mem_singleton.mpr rfl) List.filter_sublist (fun x hx => by cases hx) (List.Pairwise.imp_of_mem (fun {x y} hx hy ne => by
      rw [Bool.or_eq_false_iff]
      obtain ⟨_, x1, x2⟩ := (hc x).mp hx
      obtain ⟨_, y1, y2⟩ := (hc y).mp hy
      refine ⟨Bool.eq_false_iff.mpr fun q => ne (y2 x x1 (subB_iff.mp q)), Bool.eq_false_iff.mpr fun q => ne (x2 y y1 (subB_iff.mp q)).symm⟩) nd)
    refine List.any_eq_true.mpr ⟨n, hn, fits_iff.mpr fun p hp' e => ?_⟩
    have hm : ∀ l, l ∈ n ↔ l ∈ c := fun l => by rw [pn.mem_iff, List.nil_append]
    cases w : p.ok with
    | true =>
      obtain ⟨s, hs, h1, h2⟩ := least_below htr p.up.length p.up (Nat.le_refl _) (told_mem.mpr ⟨p, hp', e, w, rfl⟩)
      obtain ⟨q, hq, e1, e3, rfl⟩ := told_mem.mp hs
      exact able_iff.mpr ⟨q.up, (hm _).mpr ((hc _).mpr ⟨hp q hq e1, hs, h2⟩), h1⟩
    | false =>
      refine Bool.eq_false_iff.mpr fun a => ?_
      obtain ⟨l, hl, hx⟩ := able_iff.mp a
      obtain ⟨_, l1, _⟩ := (hc l).mp ((hm l).mp hl)
      obtain ⟨q, hq, e1, e3, rfl⟩ := told_mem.mp l1
      exact h q hq p hp' e1 e e3 w hx
end U
end

section
set_option Elab.async false
set_option linter.all false
set_option maxRecDepth 100000
namespace U
open PySem PySem.Spec PyProof.Rows L2
structure GP (p : Pl) : Prop where
  nm : GN p.nm
  gs : GS p.up
  us : Up ltN p.up
  z : p.up.length ≤ 8
def plE (h : Bool) (p : Pl) : D := sq h [setE h p.up, nmD p.nm, .bl p.ok]
def plsE (h : Bool) (ps : List Pl) : D := sq h (ps.map (plE h))
theorem okS_pl {p : Pl} (g : GP p) (h : Bool) (n : Nat) : okS (n + 2) (plE h p) = true := by
  unfold plE
  rw [okS_sq]
  simp only [List.length_cons, List.length_nil, List.all_cons, List.all_nil, okS_set g.gs (l60' (Nat.le_trans g.z (by decide))) h n, okS_nm g.nm (n + 1), Bool.and_true, Bool.true_and]
  have : okS (n + 1) (.bl p.ok) = true := by unfold okS; rfl
  rw [this, Bool.and_true]
  exact decide_eq_true (show 0 + 1 + 1 + 1 < lim by decide)
theorem okS_pls {ps : List Pl} (g : ∀ p ∈ ps, GP p) (z : ps.length ≤ 60) (h : Bool) (n : Nat) : okS (n + 3) (plsE h ps) = true := by
  unfold plsE
  rw [okS_sq, List.length_map, decide_eq_true (l60' z), Bool.true_and]
  exact List.all_eq_true.mpr fun d hd => by obtain ⟨p, hp, rfl⟩ := List.mem_map.mp hd; exact okS_pl (g p hp) h n
theorem tupD_pl (h : Bool) (p : Pl) : tupD (plE h p) = plE true p := by
  unfold plE
  rw [tupD_sq]
  simp only [List.map_cons, List.map_nil, tupD_set]; rfl
theorem tupled_pls {ps : List Pl} (g : ∀ p ∈ ps, GP p) (z : ps.length ≤ 60) (h : Bool) : den_tupled 12 [.val (plsE h ps)] = .ok (.d (plsE true ps)) [.no] := by
  rw [tupled_ok 11 _ (okS_pls g z h 8)]
  congr 2
  unfold plsE
  rw [tupD_sq, List.map_map]
  show D.tup _ = D.tup _
  congr 1
  exact List.map_congr_left fun p _ => tupD_pl h p
theorem lstD_pl (h : Bool) (p : Pl) : lstD (plE h p) = plE false p := by
  unfold plE
  rw [lstD_sq]
  simp only [List.map_cons, List.map_nil, lstD_set]; rfl
theorem lists_pls {ps : List Pl} (g : ∀ p ∈ ps, GP p) (z : ps.length ≤ 60) : den__law_lists 12 [.val (plsE true ps)] = .ok (.o (.l (ps.map (plE false)))) [.no] := by
  rw [lists_ok 11 _ (okS_pls g z true 8)]
  show DR.ok (.o (.l (lstDL (ps.map (plE true))))) _ = _
  rw [lstDL_map, List.map_map]
  congr 3
  exact List.map_congr_left fun r _ => lstD_pl true r
/-! is_able, is_in -/
theorem is_in_ok {a b : NS} (ga : GS a) (gb : GS b) (z : a.length ≤ 60) : den_is_in [.val (setT a), .val (setT b)] = .ok (.d (.bl (subB a b))) [.no, .no] := by
  have hc : compL c0_is_in (a.map nmD) [.val (setT a), .val (setT b), .no] [] = .ok (a.map fun x => .bl (inB x b)) [.val (setT a), .val (setT b), .no] :=
    compL_over a (fun x hx => by
      have gi : gIn false (nmD x) (setT b) = some (.d (.bl (false != inB x b))) := gIn_nm true false (ga x hx) gb
      rw [Bool.false_bne] at gi
      simp only [c0_is_in, evl, evl2, evl3, evl4, prim, slotsE, if_true, gi]) (Nat.le_of_lt (l60' z))
  have it : (setT a).items = some (a.map nmD) := rfl
  have ha := gAll_map (fun x => inB x b) a
  show DR.of (f_is_in [.val (setT a), .val (setT b), .no]) [.val (setT a), .val (setT b)] = _
  rw [nE_is_in]
  simp only [evl, evl2, evl3, evl4, evl6, prim, slotsE, it, hc, ha]
  rfl
/-! told_for -/
theorem gSS_nms {s : NS} (hs : GS s) (hl : s.length ≤ lim) (few : (dd s).length < 64) : gSS (setT s) = some (.o (.l ((sof' ltN s).map nmD))) := by
  have ok : okSet (s.map nmD) = true := by
    unfold okSet
    rw [canSort_iff (sort_nms hs hl), dedupD_map nm_eqb, List.length_map, decide_eq_true few]
    have h1 : ((s.map nmD).all fun d => d.key.isSome) = true := List.all_eq_true.mpr fun d hd => by obtain ⟨x, _, rfl⟩ := List.mem_map.mp hd; rfl
    rw [h1]
    simp
  show (if okSet (s.map nmD) = true then some (PR.o (.l (setD (s.map nmD)))) else none) = _
  rw [if_pos ok, setD_map nm_eqb nm_lt]
theorem set_of_up {u : NS} (gu : GS u) (hu : Up ltN u) (z : u.length ≤ 8) : den_set_of [.val (setT u)] = .ok (.d (setT u)) [.no] := by
  have h1 := gSS_nms gu (lim_big (by omega)) (by rw [dd_id (up_nodup oN hu)]; omega)
  rw [sof_id oN hu] at h1
  simp only [den_set_of, f_set_of, evl, evl2, evl3, evl4, prim, slotsE, if_true, h1]
  rfl
theorem gEq_nms (neg : Bool) {x y : Nm} (hx : GN x) (hy : GN y) : gEq neg (nmD x) (nmD y) = some (.d (.bl (neg != decide (x = y)))) := by
  unfold gEq
  rw [nm_ok hx, nm_ok hy, nm_eqb]
  first | done | rfl
theorem gEq_bls (neg a b : Bool) : gEq neg (.bl a) (.bl b) = some (.d (.bl (neg != (a == b)))) := by cases a <;> cases b <;> cases neg <;> rfl
theorem told_ok {ps : List Pl} (g : ∀ p ∈ ps, GP p) (z : ps.length ≤ 60) {t : Nm} (gt : GN t) (h w : Bool) : den_told_for [.val (plsE h ps), .val (nmD t), .val (.bl w)] = .ok (.o (.l ((toldB ps t w).map setT))) [.no, .no, .no] := by
  have hc : compL c0_told_for (ps.map (plE true)) [.val (plsE h ps), .val (nmD t), .val (.bl w), .no, .no, .no] [] = .ok ((ps.filter fun p => decide (p.nm = t) && (p.ok == w)).map fun p => setT p.up) [.val (plsE h ps), .val (nmD t), .val (.bl w), .no, .no, .no] :=
    compL_filt ps (fun p hp => by
      have e1 := gEq_nms false (g p hp).nm gt
      have e2 := gEq_bls false p.ok w
      rw [Bool.false_bne] at e1 e2
      have e3 := set_of_up (g p hp).gs (g p hp).us (g p hp).z
      have ep : plE true p = .tup [setT p.up, nmD p.nm, .bl p.ok] := rfl
      rw [ep]
      generalize decide (p.nm = t) = b1 at e1 ⊢
      generalize (p.ok == w) = b2 at e2 ⊢
      cases b1 <;> cases b2 <;> simp only [c0_told_for, evl, evl2, evl3, evl4, prim, slotsE, if_true, List.length_cons, List.length_nil, e1, e2, e3, nd0, Bool.false_eq_true, if_false, Bool.and_false, Bool.false_and, Bool.and_true, Bool.true_and]) (lim_big (by omega))
  have it : (plsE true ps).items = some (ps.map (plE true)) := rfl
  have et := tupled_pls g z h
  have em : (toldB ps t w).map setT = (ps.filter fun p => decide (p.nm = t) && (p.ok == w)).map fun p => setT p.up := by unfold toldB; rw [List.map_map]; rfl
  rw [em]
  show DR.of (f_told_for [.val (plsE h ps), .val (nmD t), .val (.bl w), .no, .no, .no]) [.val (plsE h ps), .val (nmD t), .val (.bl w)] = _
  rw [nE_told_for]
  simp only [evl, evl2, evl3, evl4, evl6, prim, slotsE, et, nd0, if_true, it, hc]
end U
end

section
set_option Elab.async false
set_option linter.all false
set_option maxRecDepth 100000
namespace U
open PySem PySem.Spec PyProof.Rows L2
theorem compL_acc {α : Type} {f : D → T → Rs (Option D)} {g h : α → D} {τ : T} : ∀ (xs : List α) (acc : List D), (∀ x ∈ xs, f (g x) τ = .ok (some (h x)) τ) → acc.length + xs.length ≤ lim → compL f (xs.map g) τ acc = .ok (acc ++ xs.map h) τ
  | [], acc, _, _ => by simp [compL]
  | x :: xs, acc, hf, hl => by
    rw [List.length_cons] at hl
    have hlt : acc.length < lim := by omega
    show (match f (g x) τ with
      | .ok (some z) τ1 => if acc.length < lim then compL f (xs.map g) τ1 (acc ++ [z]) else .stuck
      | .ok none τ1 => compL f (xs.map g) τ1 acc
      | _ => .stuck) = _
    rw [hf x (List.mem_cons_self ..)]
    show (if acc.length < lim then compL f (xs.map g) τ (acc ++ [h x]) else .stuck) = _
    rw [if_pos hlt, compL_acc xs (acc ++ [h x]) (fun z hz => hf z (List.mem_cons_of_mem _ hz)) (by rw [List.length_append, List.length_singleton]; omega)]
    simp
theorem compL2_acc {α : Type} {f : D → T → List D → Rs (List D)} {g : α → D} {k : α → List D} {τ : T} (m : Nat) : ∀ (xs : List α) (acc : List D), (∀ x ∈ xs, (k x).length ≤ m) → (∀ x ∈ xs, ∀ acc : List D, acc.length + m ≤ lim → f (g x) τ acc = .ok (acc ++ k x) τ) → acc.length + m * xs.length ≤ lim → compL2 f (xs.map g) τ acc = .ok (acc ++ xs.flatMap k) τ
  | [], acc, _, _, _ => by simp [compL2]
  | x :: xs, acc, hk, hf, hl => by
    rw [List.length_cons, Nat.mul_succ] at hl
    have h1 := hf x (List.mem_cons_self ..) acc (by omega)
    show (match f (g x) τ acc with
      | .ok acc' τ1 => compL2 f (xs.map g) τ1 acc'
      | _ => .stuck) = _
    rw [h1]
    show compL2 f (xs.map g) τ (acc ++ k x) = _
    have := hk x (List.mem_cons_self ..)
    rw [compL2_acc m xs (acc ++ k x) (fun z hz => hk z (List.mem_cons_of_mem _ hz)) (fun z hz => hf z (List.mem_cons_of_mem _ hz)) (by rw [List.length_append]; omega)]
    simp
theorem told_good {ps : List Pl} (g : ∀ p ∈ ps, GP p) {t : Nm} {w : Bool} {u : NS} (h : u ∈ toldB ps t w) : GS u ∧ u.length ≤ 8 := by
  obtain ⟨p, hp, _, _, rfl⟩ := told_mem.mp h
  exact ⟨(g p hp).gs, (g p hp).z⟩
theorem told_len {ps : List Pl} {t : Nm} {w : Bool} : (toldB ps t w).length ≤ ps.length := by unfold toldB; rw [List.length_map]; exact List.length_filter_le ..
theorem any_flat {α β : Type} (us : List α) (fs : List β) (p : α → β → Bool) : ((us.flatMap fun u => fs.map fun f => (u, f)).any fun z => p z.1 z.2) = us.any fun u => fs.any fun f => p u f := by
  induction us with
  | nil => rfl
  | cons u us ih => rw [List.flatMap_cons, List.any_append, ih, List.any_cons, List.any_map]; rfl
theorem gAny_flat (us fs : List NS) : gAny (.lst (us.flatMap fun u => fs.map fun f => D.bl (subB u f))) = some (.d (.bl (us.any fun u => fs.any fun f => subB u f))) := by
  have e : (us.flatMap fun u => fs.map fun f => D.bl (subB u f)) = (us.flatMap fun u => fs.map fun f => (u, f)).map fun z => D.bl (subB z.1 z.2) := by
    rw [List.map_flatMap]
    congr 1
    funext u
    rw [List.map_map]; rfl
  rw [e, gAny_map (fun z : NS × NS => subB z.1 z.2), any_flat]
theorem is_clear_ok {ps : List Pl} (g : ∀ p ∈ ps, GP p) (z : ps.length ≤ 12) {t : Nm} (gt : GN t) (h : Bool) : den_is_clear [.val (plsE h ps), .val (nmD t)] = .ok (.d (.bl (clearB ps t))) [.no, .no] := by
  have e1 := told_ok g (by omega) gt h true
  have e2 := told_ok g (by omega) gt h false
  have zf : (toldB ps t false).length ≤ 12 := Nat.le_trans told_len z
  have zt : (toldB ps t true).length ≤ 12 := Nat.le_trans told_len z
  have itf : (D.lst ((toldB ps t false).map setT)).items = some ((toldB ps t false).map setT) := rfl
  have itt : (D.lst ((toldB ps t true).map setT)).items = some ((toldB ps t true).map setT) := rfl
  have step : ∀ s2 : Sl, (s2 = .own (.l ((toldB ps t false).map setT)) ∨ s2 = .val (.lst ((toldB ps t false).map setT))) → ∀ u ∈ toldB ps t true, ∀ acc : List D, acc.length + 12 ≤ lim → e0_is_clear (setT u) [.val (plsE h ps), .val (nmD t), s2, .no, .no] acc = .ok (acc ++ (toldB ps t false).map fun f => D.bl (subB u f)) [.val (plsE h ps), .val (nmD t), .val (.lst ((toldB ps t false).map setT)), .no, .no] := fun s2 h2 u hu acc hl => by
    have hc : compL c0_is_clear ((toldB ps t false).map setT) [.val (plsE h ps), .val (nmD t), .val (.lst ((toldB ps t false).map setT)), .val (setT u), .no] acc = .ok (acc ++ (toldB ps t false).map fun f => D.bl (subB u f)) [.val (plsE h ps), .val (nmD t), .val (.lst ((toldB ps t false).map setT)), .val (setT u), .no] :=
      compL_acc _ acc (fun f hf => by
        have ei := is_in_ok (told_good g hu).1 (told_good g hf).1 (Nat.le_trans (told_good g hu).2 (by decide))
        simp only [c0_is_clear, evl, evl2, evl3, evl4, prim, slotsE, if_true, ei, nd0]) (by omega)
    rcases h2 with rfl | rfl <;> simp only [e0_is_clear, evl, evl2, evl3, evl4, evl7, prim, slotsE, if_true, itf, hc]
  have loop : ∃ s2, compL2 e0_is_clear ((toldB ps t true).map setT) [.val (plsE h ps), .val (nmD t), .own (.l ((toldB ps t false).map setT)), .no, .no] [] = .ok ((toldB ps t true).flatMap fun u => (toldB ps t false).map fun f => D.bl (subB u f)) [.val (plsE h ps), .val (nmD t), s2, .no, .no] := by
    cases q : toldB ps t true with
    | nil => exact ⟨_, rfl⟩
    | cons u us =>
      refine ⟨.val (.lst ((toldB ps t false).map setT)), ?_⟩
      rw [q] at step zt
      rw [List.length_cons] at zt
      rw [List.map_cons]
      unfold compL2
      rw [step _ (.inl rfl) u (List.mem_cons_self ..) [] (by show 0 + 12 ≤ lim; decide)]
      show compL2 e0_is_clear (us.map setT) _ ([] ++ _) = _
      rw [compL2_acc 12 us _ (fun x _ => by rw [List.length_map]; exact zf) (fun x hx acc ha => step _ (.inr rfl) x (List.mem_cons_of_mem _ hx) acc ha) (by rw [List.nil_append, List.length_map]; exact lim_big (by omega))]
      rw [List.nil_append, List.flatMap_cons]
  obtain ⟨s2, hc⟩ := loop
  have ha := gAny_flat (toldB ps t true) (toldB ps t false)
  unfold clearB
  generalize ((toldB ps t true).any fun u => (toldB ps t false).any fun f => subB u f) = bb at ha ⊢
  show DR.of (f_is_clear [.val (plsE h ps), .val (nmD t), .no, .no, .no]) [.val (plsE h ps), .val (nmD t)] = _
  rw [nE_is_clear]
  refine run_seq (t := [.val (plsE h ps), .val (nmD t), .own (.l ((toldB ps t false).map setT)), .no, .no]) ?_ ?_
  · simp only [evl, evl2, evl3, evl4, evl6, prim, slotsE, e2, nd0, if_true]
  · simp only [evl, evl2, evl3, evl4, evl6, evl7, prim, slotsE, e1, itt, nd0, if_true]
    rw [hc]
    cases bb <;> simp only [evl, evl2, evl3, evl4, evl6, evl7, prim, slotsE, ha] <;> rfl
theorem can_fit_ok {ps : List Pl} (g : ∀ p ∈ ps, GP p) (z : ps.length ≤ 12) {ns : NS} (gn : GS ns) (zn : ns.length ≤ 8) (h h' : Bool) : den_can_fit_places [.val (setE h' ns), .val (plsE h ps)] = .ok (.d (.bl (ns.all (clearB ps)))) [.no, .no] := by
  have hc : compL c0_can_fit_places (ns.map nmD) [.val (setE h' ns), .val (plsE h ps), .no] [] = .ok (ns.map fun x => .bl (clearB ps x)) [.val (setE h' ns), .val (plsE h ps), .no] :=
    compL_over ns (fun x hx => by
      have e := is_clear_ok g z (gn x hx) h
      simp only [c0_can_fit_places, evl, evl2, evl3, evl4, prim, slotsE, if_true, e, nd0]) (lim_big (by omega))
  have it : (setE h' ns).items = some (ns.map nmD) := sq_items h' _
  have ha := gAll_map (clearB ps) ns
  show DR.of (f_can_fit_places [.val (setE h' ns), .val (plsE h ps), .no]) [.val (setE h' ns), .val (plsE h ps)] = _
  rw [nE_can_fit_places]
  simp only [evl, evl2, evl3, evl4, evl6, prim, slotsE, it, hc, ha]
end U
end

section
set_option Elab.async false
set_option linter.all false
set_option maxRecDepth 100000
namespace U
open PySem PySem.Spec PyProof.Rows L2
theorem toD_d (t : Bool) (ks vs : List D) : (OV.d t ks vs).toD = .dct t ks vs := rfl
def needsOf (b : Bk) (x : Nm) : List NS := ((b.find? fun r => decide (r.1 = x)).map (·.2)).getD []
theorem look_needs (x : Nm) : ∀ b : Bk, dLook (b.map fun r => nmD r.1) (b.map fun r => lotE true r.2) (nmD x) = (b.find? fun r => decide (r.1 = x)).map fun r => lotE true r.2
  | [] => rfl
  | r :: b => by
    show (if (nmD r.1).eqb (nmD x) then some (lotE true r.2) else dLook (b.map fun r => nmD r.1) (b.map fun r => lotE true r.2) (nmD x)) = _
    rw [nm_eqb, List.find?_cons, look_needs x b]
    cases decide (r.1 = x) <;> rfl
theorem find_needs {b : Bk} {x : Nm} (h : x ∈ b.map (·.1)) : ∃ r ∈ b, r.1 = x ∧ (b.find? fun r => decide (r.1 = x)) = some r := by
  cases q : b.find? fun r => decide (r.1 = x) with
  | none =>
    obtain ⟨r, hr, e⟩ := List.mem_map.mp h
    have := List.find?_eq_none.mp q r hr
    simp [e] at this
  | some r => exact ⟨r, List.mem_of_find?_eq_some q, by simpa using List.find?_some q, rfl⟩
theorem gIx_needs {b : Bk} {x : Nm} (h : x ∈ b.map (·.1)) : gIx (.dct false (b.map fun r => nmD r.1) (b.map fun r => lotE true r.2)) (nmD x) = some (.d (lotE true (needsOf b x))) := by
  show (if (nmD x).keyOk false = true then (dLook (b.map fun r => nmD r.1) (b.map fun r => lotE true r.2) (nmD x)).map PR.d else none) = _
  rw [if_pos (show D.keyOk false (nmD x) = true from rfl), look_needs]
  obtain ⟨r, _, _, e⟩ := find_needs h
  unfold needsOf
  rw [e]; rfl
structure GBp (b : Bk) : Prop where
  good : GB b
  rows : b.length ≤ 8
  needs : ∀ r ∈ b, r.2.length ≤ 60
  names : ∀ r ∈ b, ∀ s ∈ r.2, s.length ≤ 60
  nd : (b.map (·.1)).Nodup
theorem needs_good {b : Bk} (g : GBp b) {x : Nm} (h : x ∈ b.map (·.1)) : GL (needsOf b x) ∧ (needsOf b x).length ≤ 60 ∧ ∀ s ∈ needsOf b x, s.length ≤ 60 := by
  obtain ⟨r, hr, _, e⟩ := find_needs h
  have : needsOf b x = r.2 := by unfold needsOf; rw [e]; rfl
  rw [this]
  exact ⟨(g.good r hr).2, g.needs r hr, g.names r hr⟩
end U
end

section
set_option Elab.async false
set_option linter.all false
set_option maxRecDepth 100000
namespace U
open PySem PySem.Spec PyProof.Rows L2
theorem within_ok {a b : NS} (ga : GS a) (gb : GS b) (z : a.length ≤ 60) : den__law_within [.val (setT a), .val (setT b)] = .ok (.d (.bl (subB a b))) [.no, .no] := by
  have hc : compL c0__law_within (a.map nmD) [.val (setT a), .val (setT b), .no] [] = .ok ((a.filter fun x => !inB x b).map nmD) [.val (setT a), .val (setT b), .no] :=
    compL_filt a (fun x hx => by
      have gi : gIn true (nmD x) (setT b) = some (.d (.bl (true != inB x b))) := gIn_nm true true (ga x hx) gb
      rw [Bool.true_bne] at gi
      cases c : inB x b
      · rw [c, Bool.not_false] at gi
        simp only [c0__law_within, evl, evl2, evl3, evl4, prim, slotsE, if_true, gi, Bool.not_false]
      · rw [c, Bool.not_true] at gi
        simp only [c0__law_within, evl, evl2, evl3, evl4, prim, slotsE, if_true, gi, Bool.not_true, Bool.false_eq_true, if_false]) (Nat.le_of_lt (l60' z))
  have it : (setT a).items = some (a.map nmD) := rfl
  have ge : gEq false (.lst ((a.filter fun x => !inB x b).map nmD)) (.lst []) = some (.d (.bl (subB a b))) := by
    rw [gEq_nil false (nms_ok (fun x hx => ga x (List.mem_filter.mp hx).1) 59), List.isEmpty_map, filt_all, Bool.false_bne]; rfl
  have l0 : (([] : List D).length ≤ lim) = True := eq_true (by decide)
  show DR.of (f__law_within [.val (setT a), .val (setT b), .no]) [.val (setT a), .val (setT b)] = _
  rw [nE__law_within]
  simp only [evl, evl2, evl3, evl4, evl6, prim, slotsE, it, hc, l0, if_true, ge]
theorem gSorted_sets {l : List NS} (hs : GL l) (hl : l.length ≤ lim) : gSorted (.tup (l.map setT)) = some (.o (.l ((isort ltS l).map setT))) := by
  show (if canSort (l.map setT) = true then some (PR.o (.l (sortD (l.map setT)))) else none) = _
  rw [canSort_iff (sort_sets hs hl), if_pos rfl, sortD_map set_lt]
theorem toD_l (ds : List D) : (OV.l ds).toD = .lst ds := rfl
structure GO (k : Nat) (own : List NS) : Prop where
  g : GL own
  z : own.length ≤ k
  s : ∀ t ∈ own, t.length ≤ 8
theorem not_any {α : Type} (p : α → Bool) : ∀ l : List α, (!l.any p) = l.all fun x => !p x
  | [] => rfl
  | x :: l => by rw [List.any_cons, List.all_cons, Bool.not_or, not_any p l]
def incB (lot : NS) (own : List NS) : Bool := own.all fun its => !(subB its lot || subB lot its)
section
variable {v0 s1 s2 : Sl} {lot : NS}
theorem b0_all {k : Nat} {own : List NS} (go : GO k own) (hk : k ≤ 30) (gl : GS lot) (zl : lot.length ≤ 8) {L : List (List NS)} (zL : L.length ≤ 600) {s5 : Sl} (f5 : s5.free = true) :
    b0__law_all_needs (lotE true own) [v0, s1, s2, .val (setT lot), .own (.l (L.map (lotE true))), s5, .no] = .nx [v0, s1, s2, .val (setT lot), .own (.l ((if incB lot own then L ++ [isort ltS (own ++ [lot])] else L).map (lotE true))), .val (lotE true own), .no] := by
  have hc : compL c0__law_all_needs (own.map setT) [v0, s1, s2, .val (setT lot), .own (.l (L.map (lotE true))), .val (lotE true own), .no] [] = .ok ((own.filter fun its => subB its lot || subB lot its).map setT) [v0, s1, s2, .val (setT lot), .own (.l (L.map (lotE true))), .val (lotE true own), .no] :=
    compL_filt own (fun its hi => by
      have e1 := within_ok (go.g its hi) gl (Nat.le_trans (go.s its hi) (by decide))
      have e2 := within_ok gl (go.g its hi) (Nat.le_trans zl (by decide))
      generalize subB its lot = a1 at e1 ⊢
      generalize subB lot its = a2 at e2 ⊢
      cases a1 <;> cases a2 <;> simp only [c0__law_all_needs, evl, evl2, evl3, evl4, prim, slotsE, if_true, e1, e2, nd0, Bool.false_eq_true, if_false, Bool.or_false, Bool.false_or, Bool.or_true, Bool.true_or]) (lim_big (by have := go.z; omega))
  have it : (lotE true own).items = some (own.map setT) := rfl
  have hok : D.okL ((own.filter fun its => subB its lot || subB lot its).map setT) 59 = true := okL_of fun d hd => by
    obtain ⟨x, hx, rfl⟩ := List.mem_map.mp hd
    exact set_ok (go.g x (List.mem_filter.mp hx).1) true 58
  have hb : (own.filter fun its => subB its lot || subB lot its).isEmpty = incB lot own := by
    have := filt_any (p := fun its => subB its lot || subB lot its) own
    unfold incB
    rw [← Bool.not_not (b := List.isEmpty _), this, not_any]
  have ge : gEq false (.lst ((own.filter fun its => subB its lot || subB lot its).map setT)) (.lst []) = some (.d (.bl (incB lot own))) := by
    rw [gEq_nil false hok, List.isEmpty_map, hb, Bool.false_bne]
  have l0 : (([] : List D).length ≤ lim) = True := eq_true (by decide)
  have l1 : (([setT lot] : List D).length ≤ lim) = True := eq_true (by show 1 ≤ lim; decide)
  have ga : gAdd (lotE true own) (.tup [setT lot]) = some (.d (.tup ((own ++ [lot]).map setT))) := by
    show (if (own.map setT).length + [setT lot].length ≤ lim then some (PR.d (D.tup (own.map setT ++ [setT lot]))) else none) = _
    rw [if_pos (by rw [List.length_map]; exact lim_big (by have := go.z; simp; omega)), List.map_append]; rfl
  have gso := gSorted_sets (l := own ++ [lot]) (fun t ht => by
    rcases List.mem_append.mp ht with q | q
    · exact go.g t q
    · rw [List.mem_singleton.mp q]; exact gl) (lim_big (by have := go.z; simp; omega))
  have hll : ((L.map (lotE true)).length < lim) = True := eq_true (by rw [List.length_map]; exact Nat.lt_of_lt_of_le (by omega : L.length < 1000) (lim_big (Nat.le_refl _)))
  have em : (L ++ [isort ltS (own ++ [lot])]).map (lotE true) = L.map (lotE true) ++ [.tup ((isort ltS (own ++ [lot])).map setT)] := by rw [List.map_append]; rfl
  generalize incB lot own = bb at ge ⊢
  cases bb
  · simp only [b0__law_all_needs, evl, evl2, evl3, evl4, evl6, prim, slotsE, f5, if_true, it, hc, l0, ge, Bool.false_eq_true, if_false]
  · simp only [b0__law_all_needs, evl, evl2, evl3, evl4, evl6, prim, slotsE, f5, if_true, it, hc, l0, l1, ge, ga, gso, hll, em]
theorem b0_all_loop {k : Nat} (hk : k ≤ 30) (gl : GS lot) (zl : lot.length ≤ 8) : ∀ (c L : List (List NS)) (s5 : Sl), (∀ own ∈ c, GO k own) → L.length + c.length ≤ 600 → s5.free = true → ∃ s5' : Sl, s5'.free = true ∧
    forL b0__law_all_needs (c.map (lotE true)) [v0, s1, s2, .val (setT lot), .own (.l (L.map (lotE true))), s5, .no] = .nx [v0, s1, s2, .val (setT lot), .own (.l ((L ++ (c.filter (incB lot)).map fun own => isort ltS (own ++ [lot])).map (lotE true))), s5', .no]
  | [], L, s5, _, _, f5 => ⟨s5, f5, by simp [forL]⟩
  | own :: c, L, s5, hg, hl, f5 => by
    rw [List.length_cons] at hl
    have e := b0_all (v0 := v0) (s1 := s1) (s2 := s2) (hg own (List.mem_cons_self ..)) hk gl zl (L := L) (by omega) f5
    obtain ⟨s5', q, ih⟩ := b0_all_loop hk gl zl c (if incB lot own then L ++ [isort ltS (own ++ [lot])] else L) (.val (lotE true own)) (fun o ho => hg o (List.mem_cons_of_mem _ ho)) (by split <;> (try rw [List.length_append, List.length_singleton]) <;> omega) rfl
    refine ⟨s5', q, ?_⟩
    rw [List.map_cons, forL_step e, ih]
    congr 6
    rw [List.filter_cons]
    split <;> simp
end
end U
end

section
set_option Elab.async false
set_option linter.all false
set_option maxRecDepth 100000
namespace U
open PySem PySem.Spec PyProof.Rows L2
theorem GO.step {k : Nat} {own : List NS} (g : GO k own) {lot : NS} (gl : GS lot) (zl : lot.length ≤ 8) : GO (k + 1) (isort ltS (own ++ [lot])) := by
  have hm : ∀ t, t ∈ isort ltS (own ++ [lot]) → t ∈ own ∨ t = lot := fun t ht => by
    rcases List.mem_append.mp ((isort_perm _).mem_iff.mp ht) with q | q
    · exact .inl q
    · exact .inr (List.mem_singleton.mp q)
  refine ⟨fun t ht => ?_, ?_, fun t ht => ?_⟩
  · rcases hm t ht with q | q
    · exact g.g t q
    · rw [q]; exact gl
  · rw [(isort_perm _).length_eq, List.length_append, List.length_singleton]; have := g.z; omega
  · rcases hm t ht with q | q
    · exact g.s t q
    · rw [q]; exact zl
theorem GO.mono {k m : Nat} {own : List NS} (g : GO k own) (h : k ≤ m) : GO m own := ⟨g.g, Nat.le_trans g.z h, g.s⟩
theorem stepN_good {k : Nat} {found : List (List NS)} (g : ∀ own ∈ found, GO k own) {lot : NS} (gl : GS lot) (zl : lot.length ≤ 8) : ∀ own ∈ stepN found lot, GO (k + 1) own := fun own h => by
  rcases List.mem_append.mp h with q | q
  · exact (g own q).mono (Nat.le_succ _)
  · obtain ⟨o, ho, rfl⟩ := List.mem_map.mp q
    exact (g o (List.mem_filter.mp ho).1).step gl zl
theorem stepN_len {found : List (List NS)} {lot : NS} : (stepN found lot).length ≤ 2 * found.length := by
  unfold stepN
  rw [List.length_append, List.length_map]
  have := List.length_filter_le (fun own : List NS => own.all fun its => !(subB its lot || subB lot its)) found
  omega
section
variable {v0 s1 : Sl}
theorem b1_all {k : Nat} (hk : k ≤ 30) {lot : NS} (gl : GS lot) (zl : lot.length ≤ 8) {found : List (List NS)} (g : ∀ own ∈ found, GO k own) (zf : found.length ≤ 256) {s3 s4 s5 : Sl} (f3 : s3.free = true) (f4 : s4.free = true) (f5 : s5.free = true) : ∃ s4' s5' : Sl, s4'.free = true ∧ s5'.free = true ∧
    b1__law_all_needs (setT lot) [v0, s1, .own (.l (found.map (lotE true))), s3, s4, s5, .no] = .nx [v0, s1, .own (.l ((stepN found lot).map (lotE true))), .val (setT lot), s4', s5', .no] := by
  obtain ⟨s5', q, e⟩ := b0_all_loop (v0 := v0) (s1 := s1) (s2 := .val (.lst (found.map (lotE true)))) hk gl zl found [] s5 g (by rw [List.length_nil]; omega) f5
  rw [List.nil_append, show ([] : List (List NS)).map (lotE true) = [] from rfl] at e
  have it : (D.lst (found.map (lotE true))).items = some (found.map (lotE true)) := rfl
  have l0 : (([] : List D).length ≤ lim) = True := eq_true (by decide)
  have em : (stepN found lot).map (lotE true) = found.map (lotE true) ++ ((found.filter (incB lot)).map fun own => isort ltS (own ++ [lot])).map (lotE true) := by
    unfold stepN
    rw [List.map_append]; rfl
  have hl : ((found.map (lotE true)).length + (((found.filter (incB lot)).map fun own => isort ltS (own ++ [lot])).map (lotE true)).length ≤ lim) = True := eq_true (by
    rw [List.length_map, List.length_map, List.length_map]
    have := List.length_filter_le (incB lot) found
    exact lim_big (by omega))
  refine ⟨.own (.l (((found.filter (incB lot)).map fun own => isort ltS (own ++ [lot])).map (lotE true))), s5', rfl, q, ?_⟩
  rw [em]
  simp only [b1__law_all_needs, evl, evl2, evl3, evl4, evl6, prim, slotsE, f3, f4, if_true, l0, it, e, toD_l, hl]
theorem all_loop : ∀ (lots : List NS) (k : Nat) (found : List (List NS)) (s3 s4 s5 : Sl), (∀ t ∈ lots, GS t ∧ t.length ≤ 8) → k + lots.length ≤ 8 → found.length * 2 ^ lots.length ≤ 256 → (∀ own ∈ found, GO k own) → s3.free = true → s4.free = true → s5.free = true → ∃ s3' s4' s5' : Sl,
    forL b1__law_all_needs (lots.map setT) [v0, s1, .own (.l (found.map (lotE true))), s3, s4, s5, .no] = .nx [v0, s1, .own (.l ((lots.foldl stepN found).map (lotE true))), s3', s4', s5', .no]
  | [], k, found, s3, s4, s5, _, _, _, _, _, _, _ => ⟨s3, s4, s5, rfl⟩
  | lot :: lots, k, found, s3, s4, s5, hg, hk, hz, gf, f3, f4, f5 => by
    rw [List.length_cons] at hk hz
    obtain ⟨g1, g2⟩ := hg lot (List.mem_cons_self ..)
    have hz2 : found.length * 2 * 2 ^ lots.length ≤ 256 := by rw [Nat.mul_assoc, ← Nat.pow_succ']; exact hz
    have zf : found.length ≤ 256 := by
      have : 1 ≤ 2 ^ (lots.length + 1) := Nat.one_le_two_pow
      exact Nat.le_trans (Nat.le_mul_of_pos_right _ this) hz
    obtain ⟨s4', s5', q4, q5, e⟩ := b1_all (v0 := v0) (s1 := s1) (by omega : k ≤ 30) g1 g2 gf zf f3 f4 f5
    obtain ⟨a3, a4, a5, ih⟩ := all_loop lots (k + 1) (stepN found lot) (.val (setT lot)) s4' s5' (fun t ht => hg t (List.mem_cons_of_mem _ ht)) (by omega) (Nat.le_trans (Nat.mul_le_mul_right _ (by rw [Nat.mul_comm]; exact stepN_len)) hz2) (stepN_good gf g1 g2) rfl q4 q5
    exact ⟨a3, a4, a5, by rw [List.map_cons, forL_step e, ih]; rfl⟩
end
theorem all_good : ∀ (lots : List NS) (k : Nat) (found : List (List NS)), (∀ t ∈ lots, GS t ∧ t.length ≤ 8) → (∀ own ∈ found, GO k own) → ∀ own ∈ lots.foldl stepN found, GO (k + lots.length) own
  | [], k, found, _, g => g
  | lot :: lots, k, found, hg, g => by
    have := all_good lots (k + 1) (stepN found lot) (fun t ht => hg t (List.mem_cons_of_mem _ ht)) (stepN_good g (hg lot (List.mem_cons_self ..)).1 (hg lot (List.mem_cons_self ..)).2)
    rw [List.length_cons, Nat.add_comm lots.length 1, ← Nat.add_assoc]
    exact this
theorem all_len : ∀ (lots : List NS) (found : List (List NS)), (lots.foldl stepN found).length ≤ found.length * 2 ^ lots.length
  | [], found => by simp
  | lot :: lots, found => by
    refine Nat.le_trans (all_len lots (stepN found lot)) ?_
    rw [List.length_cons, Nat.pow_succ', ← Nat.mul_assoc]
    exact Nat.mul_le_mul_right _ (by rw [Nat.mul_comm]; exact stepN_len)
theorem GO.nil : GO 0 [] := ⟨fun t h => (by cases h), Nat.le_refl _, fun t h => (by cases h)⟩
theorem sets_few {rest : NS} (z : rest.length ≤ 3) : (setsB rest).length ≤ 8 := by
  unfold setsB
  rw [(isort_perm _).length_eq, pwF_len, (isort_perm rest).length_eq]
  have : 2 ^ rest.length ≤ 2 ^ 3 := Nat.pow_le_pow_right (by decide) z
  simp; omega
theorem sets_gs {ns s : NS} (g : GS ns) (h : s ∈ setsB ns) : GS s ∧ s.length ≤ ns.length := by
  have hs := mem_sets.mp h
  exact ⟨fun x hx => g x ((isort_perm ns).mem_iff.mp (hs.subset hx)), by rw [← (isort_perm (lt := ltN) ns).length_eq]; exact hs.length_le⟩
theorem all_needs_ok {rest : NS} (gr : GS rest) (z : rest.length ≤ 3) : den__law_all_needs [.val (.lst (rest.map nmD))] = .ok (.o (.l ((allN (setsB rest)).map (lotE true)))) [.no] := by
  have hs : den__law_sets [.val (.lst (rest.map nmD))] = .ok (.o (.l ((setsB rest).map setT))) [.no] := sets_ok false gr (by omega)
  have hz := sets_few z
  obtain ⟨a3, a4, a5, e⟩ := all_loop (v0 := .val (.lst (rest.map nmD))) (s1 := .val (.lst ((setsB rest).map setT))) (setsB rest) 0 [[]] .no .no .no (fun t ht => ⟨(sets_gs gr ht).1, Nat.le_trans (sets_gs gr ht).2 (by omega)⟩) (by omega) (by
    have : 2 ^ (setsB rest).length ≤ 2 ^ 8 := Nat.pow_le_pow_right (by decide) hz
    simp; omega) (fun own h => by rw [List.mem_singleton.mp h]; exact GO.nil) rfl rfl rfl
  have e : forL b1__law_all_needs ((setsB rest).map setT) [.val (.lst (rest.map nmD)), .val (.lst ((setsB rest).map setT)), .own (.l [.tup []]), .no, .no, .no, .no] = .nx [.val (.lst (rest.map nmD)), .val (.lst ((setsB rest).map setT)), .own (.l ((allN (setsB rest)).map (lotE true))), a3, a4, a5, .no] := e
  have l0 : (([] : List D).length ≤ lim) = True := eq_true (by decide)
  have l1 : (([D.tup []] : List D).length ≤ lim) = True := eq_true (by decide)
  have it : (D.lst ((setsB rest).map setT)).items = some ((setsB rest).map setT) := rfl
  show DR.of (f__law_all_needs [.val (.lst (rest.map nmD)), .no, .no, .no, .no, .no, .no]) [.val (.lst (rest.map nmD))] = _
  rw [nE__law_all_needs]
  simp only [evl, evl2, evl3, evl4, evl6, prim, slotsE, hs, nd0, if_true, l0, l1, it, e]
end U
end

section
set_option Elab.async false
set_option linter.all false
set_option maxRecDepth 100000
namespace U
open PySem PySem.Spec PyProof.Rows L2
theorem pl_ix (p : Pl) : gIx (plE true p) (.int 0) = some (.d (setT p.up)) ∧ gIx (plE true p) (.int 1) = some (.d (nmD p.nm)) ∧ gIx (plE true p) (.int 2) = some (.d (.bl p.ok)) := ⟨rfl, rfl, rfl⟩
def oddB (t : Nm) (needs : List NS) (p : Pl) : Bool := decide (p.nm = t) && (ableB needs p.up != p.ok)
theorem one_mul (x : D) : gMul (.lst [x]) (.int 1) = some (.o (.l [x])) ∧ gMul (.lst [x]) (.int 0) = some (.o (.l [])) := ⟨rfl, rfl⟩
theorem int_bl : gIntC (.bl true) = some (.d (.int 1)) ∧ gIntC (.bl false) = some (.d (.int 0)) := ⟨rfl, rfl⟩
section
variable {ps : List Pl} {t : Nm} {v0 s3 : Sl}
theorem b0_fit (g : ∀ p ∈ ps, GP p) (z : ps.length ≤ 12) (gt : GN t) {needs : List NS} (go : GO 30 needs) {F : List (List NS)} (zF : F.length ≤ 600) {s5 s6 : Sl} (f5 : s5.free = true) (f6 : s6.free = true) :
    b0__law_fit_needs (lotE true needs) [v0, .val (plsE true ps), .val (nmD t), s3, .own (.l (F.map (lotE true))), s5, s6, .no] = .nx [v0, .val (plsE true ps), .val (nmD t), s3, .own (.l ((if fitsN ps t needs then F ++ [needs] else F).map (lotE true))), .val (lotE true needs), .own (.l ((ps.filter (oddB t needs)).map (plE true))), .no] := by
  have hc : compL c1__law_fit_needs (ps.map (plE true)) [v0, .val (plsE true ps), .val (nmD t), s3, .own (.l (F.map (lotE true))), .val (lotE true needs), s6, .no] [] = .ok ((ps.filter (oddB t needs)).map (plE true)) [v0, .val (plsE true ps), .val (nmD t), s3, .own (.l (F.map (lotE true))), .val (lotE true needs), s6, .no] :=
    compL_filt ps (fun p hp => by
      obtain ⟨i0, i1, i2⟩ := pl_ix p
      have e1 := gEq_nms false (g p hp).nm gt
      have e2 : den__law_able [.val (lotE true needs), .val (setT p.up)] = .ok (.d (.bl (ableB needs p.up))) [.no, .no] := able_ok true true go.g (g p hp).gs (Nat.le_trans go.z (by decide)) (fun s hs => Nat.le_trans (go.s s hs) (by decide))
      have e3 := gEq_bls true (ableB needs p.up) p.ok
      rw [Bool.false_bne] at e1
      have e4 : (true != (ableB needs p.up == p.ok)) = (ableB needs p.up != p.ok) := by cases ableB needs p.up <;> cases p.ok <;> rfl
      rw [e4] at e3
      unfold oddB
      generalize (ableB needs p.up != p.ok) = b2 at e3 ⊢
      generalize decide (p.nm = t) = b1 at e1 ⊢
      cases b1 <;> cases b2 <;> simp only [c1__law_fit_needs, evl, evl2, evl3, evl4, prim, slotsE, if_true, i0, i1, i2, e1, e2, e3, nd0, Bool.false_eq_true, if_false, Bool.and_false, Bool.false_and, Bool.and_true, Bool.true_and]) (lim_big (by omega))
  have it : (plsE true ps).items = some (ps.map (plE true)) := rfl
  have hok : D.okL ((ps.filter (oddB t needs)).map (plE true)) 59 = true := okL_of fun d hd => by
    obtain ⟨p, hp, rfl⟩ := List.mem_map.mp hd
    exact okS_ok 59 _ (okS_pl (g p (List.mem_filter.mp hp).1) true 57)
  have ge : gEq false (.lst ((ps.filter (oddB t needs)).map (plE true))) (.lst []) = some (.d (.bl (fitsN ps t needs))) := by
    rw [gEq_nil false hok, List.isEmpty_map, Bool.false_bne]; rfl
  have l0 : (([] : List D).length ≤ lim) = True := eq_true (by decide)
  have l1 : (([lotE true needs] : List D).length ≤ lim) = True := eq_true (by show 1 ≤ lim; decide)
  have a1 : ((F.map (lotE true)).length + [lotE true needs].length ≤ lim) = True := eq_true (by rw [List.length_map]; exact lim_big (by simp; omega))
  have a0 : ((F.map (lotE true)).length + ([] : List D).length ≤ lim) = True := eq_true (by rw [List.length_map]; exact lim_big (by simp; omega))
  have em : (F ++ [needs]).map (lotE true) = F.map (lotE true) ++ [lotE true needs] := by rw [List.map_append]; rfl
  obtain ⟨m1, m0⟩ := one_mul (lotE true needs)
  generalize fitsN ps t needs = bb at ge ⊢
  cases bb
  · simp only [b0__law_fit_needs, evl, evl2, evl3, evl4, evl6, prim, slotsE, f5, f6, if_true, it, hc, toD_l, l0, l1, ge, int_bl, m0, m1, a0, a1, List.append_nil, Bool.false_eq_true, if_false]
  · simp only [b0__law_fit_needs, evl, evl2, evl3, evl4, evl6, prim, slotsE, f5, f6, if_true, it, hc, toD_l, l0, l1, ge, int_bl, m0, m1, a0, a1, em]
theorem fit_loop (g : ∀ p ∈ ps, GP p) (z : ps.length ≤ 12) (gt : GN t) : ∀ (c F : List (List NS)) (s5 s6 : Sl), (∀ own ∈ c, GO 30 own) → F.length + c.length ≤ 600 → s5.free = true → s6.free = true → ∃ s5' s6' : Sl,
    forL b0__law_fit_needs (c.map (lotE true)) [v0, .val (plsE true ps), .val (nmD t), s3, .own (.l (F.map (lotE true))), s5, s6, .no] = .nx [v0, .val (plsE true ps), .val (nmD t), s3, .own (.l ((F ++ c.filter (fitsN ps t)).map (lotE true))), s5', s6', .no]
  | [], F, s5, s6, _, _, _, _ => ⟨s5, s6, by simp [forL]⟩
  | own :: c, F, s5, s6, hg, hl, f5, f6 => by
    rw [List.length_cons] at hl
    have e := b0_fit (v0 := v0) (s3 := s3) g z gt (hg own (List.mem_cons_self ..)) (F := F) (by omega) f5 f6
    obtain ⟨s5', s6', ih⟩ := fit_loop g z gt c (if fitsN ps t own then F ++ [own] else F) (.val (lotE true own)) (.own (.l ((ps.filter (oddB t own)).map (plE true)))) (fun o ho => hg o (List.mem_cons_of_mem _ ho)) (by split <;> (try rw [List.length_append, List.length_singleton]) <;> omega) rfl rfl
    refine ⟨s5', s6', ?_⟩
    rw [List.map_cons, forL_step e, ih]
    congr 6
    rw [List.filter_cons]
    split <;> simp
end
def restT' (ns : NS) (t : Nm) : NS := ns.filter fun x => !decide (x = t)
theorem fit_needs_ok {ps : List Pl} (g : ∀ p ∈ ps, GP p) (z : ps.length ≤ 12) {t : Nm} (gt : GN t) {ns : NS} (gn : GS ns) (zn : ns.length ≤ 8) (zr : (restT' ns t).length ≤ 3) : den__law_fit_needs [.val (setT ns), .val (plsE true ps), .val (nmD t)] = .ok (.o (.l (((allN (setsB (restT' ns t))).filter (fitsN ps t)).map (lotE true)))) [.no, .no, .no] := by
  have hc : compL c0__law_fit_needs (ns.map nmD) [.val (setT ns), .val (plsE true ps), .val (nmD t), .no, .no, .no, .no, .no] [] = .ok ((restT' ns t).map nmD) [.val (setT ns), .val (plsE true ps), .val (nmD t), .no, .no, .no, .no, .no] :=
    compL_filt ns (fun x hx => by
      have e1 := gEq_nms true (gn x hx) gt
      rw [Bool.true_bne] at e1
      generalize decide (x = t) = b1 at e1 ⊢
      cases b1
      · rw [Bool.not_false] at e1
        simp only [c0__law_fit_needs, evl, evl2, evl3, evl4, prim, slotsE, if_true, e1, Bool.not_false]
      · rw [Bool.not_true] at e1
        simp only [c0__law_fit_needs, evl, evl2, evl3, evl4, prim, slotsE, if_true, e1, Bool.not_true, Bool.false_eq_true, if_false]) (lim_big (by omega))
  have gr : GS (restT' ns t) := fun x hx => gn x (List.mem_filter.mp hx).1
  have ea := all_needs_ok gr zr
  have hz := sets_few zr
  have hl : (allN (setsB (restT' ns t))).length ≤ 256 := by
    refine Nat.le_trans (all_len _ _) ?_
    have : 2 ^ (setsB (restT' ns t)).length ≤ 2 ^ 8 := Nat.pow_le_pow_right (by decide) hz
    simp; omega
  have hgo : ∀ own ∈ allN (setsB (restT' ns t)), GO 30 own := fun own h => (all_good _ 0 [[]] (fun t' ht => ⟨(sets_gs gr ht).1, Nat.le_trans (sets_gs gr ht).2 (by omega)⟩) (fun o ho => by rw [List.mem_singleton.mp ho]; exact GO.nil) own h).mono (by omega)
  obtain ⟨s5, s6, e⟩ := fit_loop (v0 := .val (setT ns)) (s3 := .val (.lst ((restT' ns t).map nmD))) g z gt (allN (setsB (restT' ns t))) [] .no .no hgo (by rw [List.length_nil]; omega) rfl rfl
  rw [List.nil_append, show ([] : List (List NS)).map (lotE true) = [] from rfl] at e
  have it : (setT ns).items = some (ns.map nmD) := rfl
  have i2 : (D.lst ((allN (setsB (restT' ns t))).map (lotE true))).items = some ((allN (setsB (restT' ns t))).map (lotE true)) := rfl
  have l0 : (([] : List D).length ≤ lim) = True := eq_true (by decide)
  show DR.of (f__law_fit_needs [.val (setT ns), .val (plsE true ps), .val (nmD t), .no, .no, .no, .no, .no]) [.val (setT ns), .val (plsE true ps), .val (nmD t)] = _
  rw [nE__law_fit_needs]
  simp only [evl, evl2, evl3, evl4, evl6, prim, slotsE, it, hc, l0, ea, nd0, if_true, i2, toD_l, notIo, e, PR.slot]
end U
end

section
set_option Elab.async false
set_option linter.all false
set_option maxRecDepth 100000
namespace U
open PySem PySem.Spec PyProof.Rows L2
theorem len_set (ns : NS) : gLen (setT ns) = some (.d (.int ns.length)) := by
  show some (PR.d (D.int ((ns.map nmD).length : Nat))) = _
  rw [List.length_map]
theorem of_ok {k : Nat} {u : List D} (hu : Urn k u) (hk : k < 2 ^ 60) {ns : NS} (h0 : 0 < ns.length) (zn : ns.length ≤ 8) : ∃ (u' : List D) (x : Nm), Urn (k + 1) u' ∧ x ∈ ns ∧ den__law_of [.io (.l u), .val (setT ns)] = .ok (.d (nmD x)) [.io (.l u'), .no] := by
  obtain ⟨d, u', h1, h2, h3, e⟩ := take_ok hu hk (n := (ns.length : Int)) (by omega) (log2_few (by simp only [Int.natAbs_natCast]; omega))
  obtain ⟨j, rfl⟩ := Int.eq_ofNat_of_zero_le h1
  have hj : j < ns.length := by omega
  refine ⟨u', ns[j], h3, List.getElem_mem hj, ?_⟩
  have hl := len_set ns
  have hi : gIx (setT ns) (.int (j : Int)) = some (.d (nmD ns[j])) := by
    show (atI (ns.map nmD) (j : Int)).map PR.d = _
    rw [at_nat (by simpa using hj)]
    simp
  simp only [den__law_of, f__law_of, evl, evl2, evl3, evl4, prim, slotsE, if_true, nd1, hl, e, hi]
theorem putP_new {acc : List (D × D)} {k v : D} (h : ∀ p ∈ acc, p.1.eqb k = false) : putP acc k v = acc ++ [(k, v)] := by
  unfold putP
  rw [if_neg]
  rw [Bool.not_eq_true, List.any_eq_false]
  intro p hp
  rw [h p hp]
  exact Bool.false_ne_true
theorem merge_new : ∀ (qs acc : List (D × D)), (∀ q ∈ qs, ∀ p ∈ acc, p.1.eqb q.1 = false) → qs.Pairwise (fun a b => a.1.eqb b.1 = false) → qs.foldl (fun acc p => putP acc p.1 p.2) acc = acc ++ qs
  | [], acc, _, _ => by simp
  | q :: qs, acc, h, hp => by
    rw [List.pairwise_cons] at hp
    rw [List.foldl_cons, putP_new (h q (List.mem_cons_self ..)), merge_new qs (acc ++ [(q.1, q.2)]) (fun r hr p hp' => by
      rcases List.mem_append.mp hp' with z | z
      · exact h r (List.mem_cons_of_mem _ hr) p z
      · rw [List.mem_singleton.mp z]; exact hp.1 r hr) hp.2]
    simp
theorem pairs_bk : ∀ b : Bk, pairsD (b.map (rowE true)) = some (b.map fun r => (nmD r.1, lotE true r.2))
  | [] => rfl
  | r :: b => by
    show (if (nmD r.1).key.isSome then (pairsD (b.map (rowE true))).map ((nmD r.1, lotE true r.2) :: ·) else none) = _
    rw [pairs_bk b]; rfl
theorem dict_bk {b : Bk} (g : GBp b) : gDict (.ptp (b.map (rowE true))) = some (.o (.d false (b.map fun r => nmD r.1) (b.map fun r => lotE true r.2))) := by
  show (if (b.map (rowE true)).length ≤ lim then (pairsD (b.map (rowE true))).map fun ps => PR.o (.d false ((mergeP ps).map (·.1)) ((mergeP ps).map (·.2))) else none) = _
  rw [if_pos (by rw [List.length_map]; exact lim_big (by have := g.rows; omega)), pairs_bk]
  have e : mergeP (b.map fun r => (nmD r.1, lotE true r.2)) = b.map fun r => (nmD r.1, lotE true r.2) := by
    unfold mergeP
    rw [merge_new _ [] (fun q _ p hp => by cases hp) (List.pairwise_map.mpr (List.Pairwise.imp (fun {x y} ne => by rw [nm_eqb]; exact decide_eq_false ne) (List.pairwise_map.mp g.nd)))]
    simp
  show some (PR.o (.d false ((mergeP _).map (·.1)) ((mergeP _).map (·.2)))) = _
  rw [e, List.map_map, List.map_map]; rfl
theorem sub_sets {rest u : NS} (nr : rest.Nodup) (hu : Up ltN u) (h : ∀ x ∈ u, x ∈ rest) : u ∈ setsB rest := by
  rw [mem_sets]
  have e : u = (isort ltN rest).filter fun x => inB x u := up_one oN hu ((isort_up oN nr).filter _) fun x => by
    rw [List.mem_filter, inB_iff, (isort_perm rest).mem_iff]
    exact ⟨fun q => ⟨h x q, q⟩, fun q => q.2⟩
  rw [e]
  exact List.filter_sublist
structure PlOk (ns : NS) (p : Pl) : Prop where
  g : GP p
  nm : p.nm ∈ ns
  up : p.up ∈ setsB (restT' ns p.nm)
section
variable {ns : NS} {b : Bk}
theorem b0_places (un : Up ltN ns) (gn : GS ns) (z0 : 0 < ns.length) (zn : ns.length ≤ 8) (g : GBp b) (hb : b.map (·.1) = ns) {k : Nat} {u : List D} (hu : Urn k u) (hk : k + 1000 < 2 ^ 59) (d : D) {ps : List Pl} (zp : ps.length ≤ 60) {v2 v3 s6 s7 s8 s9 : Sl} (f6 : s6.free = true) (f7 : s7.free = true) (f8 : s8.free = true) (f9 : s9.free = true) :
    ∃ (u' : List D) (p : Pl) (s7' s8' s9' : Sl), Urn (k + 1000) u' ∧ PlOk ns p ∧ s7'.free = true ∧ s8'.free = true ∧ s9'.free = true ∧
      b0__law_places d [.io (.l u), .val (setT ns), v2, v3, .own (.d false (b.map fun r => nmD r.1) (b.map fun r => lotE true r.2)), .own (.l (ps.map (plE true))), s6, s7, s8, s9, .no] = .nx [.io (.l u'), .val (setT ns), v2, v3, .own (.d false (b.map fun r => nmD r.1) (b.map fun r => lotE true r.2)), .own (.l ((ps ++ [p]).map (plE true))), .val d, s7', s8', s9', .no] := by
  obtain ⟨u1, t, hu1, ht, e1⟩ := of_ok hu (by omega) z0 zn
  have gt := gn t ht
  obtain ⟨m0, u2, m1, m2, hu2, e2⟩ := take_ok hu1 (by omega) (n := (ns.length : Int)) (by omega) (log2_few (by simp only [Int.natAbs_natCast]; omega))
  obtain ⟨m, rfl⟩ := Int.eq_ofNat_of_zero_le m1
  have zr : (restT' ns t).length ≤ 8 := Nat.le_trans (List.length_filter_le ..) zn
  obtain ⟨u3, fs, rs, hu3, h2, h3, e3⟩ := pick_ok false hu2 (ns := restT' ns t) m (by omega) (by omega)
  have nr : (restT' ns t).Nodup := (up_nodup oN un).filter _
  obtain ⟨nf, sf⟩ := drawn h2 nr
  have gf : GS fs := fun x hx => gn x (List.mem_filter.mp (sf x hx)).1
  have lf : fs.length ≤ 8 := Nat.le_trans (nodup_sub nf sf) zr
  have gso : gSorted (.lst (fs.map nmD)) = some (.o (.l ((isort ltN fs).map nmD))) := gSorted_nms false gf (lim_big (by omega))
  have gu : GS (isort ltN fs) := fun x hx => gf x ((isort_perm fs).mem_iff.mp hx)
  have uu : Up ltN (isort ltN fs) := isort_up oN nf
  have lu : (isort ltN fs).length ≤ 8 := by rw [(isort_perm fs).length_eq]; exact lf
  have hm : t ∈ b.map (·.1) := by rw [hb]; exact ht
  obtain ⟨n1, n2, n3⟩ := needs_good g hm
  have e4 : den__law_able [.val (lotE true (needsOf b t)), .val (.tup ((isort ltN fs).map nmD))] = .ok (.d (.bl (ableB (needsOf b t) (isort ltN fs)))) [.no, .no] := able_ok true true n1 gu n2 n3
  obtain ⟨j0, u4, j1, j2, hu4, e5⟩ := take_ok hu3 (by omega) (n := 12) (by decide) (log2_few (by decide))
  have e6 := gEq_bls true (ableB (needsOf b t) (isort ltN fs)) (j0 == 0)
  have ei := gIx_needs hm
  have hc : compL c0__law_places (ns.map nmD) [.io (.l u1), .val (setT ns), v2, v3, .own (.d false (b.map fun r => nmD r.1) (b.map fun r => lotE true r.2)), .own (.l (ps.map (plE true))), .val d, .val (nmD t), s8, s9, .no] [] = .ok ((restT' ns t).map nmD) [.io (.l u1), .val (setT ns), v2, v3, .own (.d false (b.map fun r => nmD r.1) (b.map fun r => lotE true r.2)), .own (.l (ps.map (plE true))), .val d, .val (nmD t), s8, s9, .no] :=
    compL_filt ns (fun x hx => by
      have e1 := gEq_nms true (gn x hx) gt
      rw [Bool.true_bne] at e1
      generalize decide (x = t) = b1 at e1 ⊢
      cases b1
      · rw [Bool.not_false] at e1
        simp only [c0__law_places, evl, evl2, evl3, evl4, prim, slotsE, if_true, e1, Bool.not_false]
      · rw [Bool.not_true] at e1
        simp only [c0__law_places, evl, evl2, evl3, evl4, prim, slotsE, if_true, e1, Bool.not_true, Bool.false_eq_true, if_false]) (lim_big (by omega))
  have e3' : den__law_pick [.io (.l u2), .val (.lst ((restT' ns t).map nmD)), .val (.int (m : Int))] = .ok (.o (.l (fs.map nmD))) [.io (.l u3), .no, .no] := e3
  have it : (setT ns).items = some (ns.map nmD) := rfl
  have hl := len_set ns
  refine ⟨u4, ⟨isort ltN fs, t, true != (ableB (needsOf b t) (isort ltN fs) == (j0 == 0))⟩, .val (nmD t), .val (setT (isort ltN fs)), .val (.bl (true != (ableB (needsOf b t) (isort ltN fs) == (j0 == 0)))), hu4.mono (by omega), ⟨⟨gt, gu, uu, lu⟩, ht, sub_sets nr uu fun x hx => sf x ((isort_perm fs).mem_iff.mp hx)⟩, rfl, rfl, rfl, ?_⟩
  have l3 : ∀ x y z : D, (([x, y, z] : List D).length ≤ lim) = True := fun x y z => eq_true (by show 3 ≤ lim; decide)
  have hll : ((ps.map (plE true)).length < lim) = True := eq_true (by rw [List.length_map]; exact l60' zp)
  have em : (ps ++ [Pl.mk (isort ltN fs) t (true != (ableB (needsOf b t) (isort ltN fs) == (j0 == 0)))]).map (plE true) = ps.map (plE true) ++ [.tup [.tup ((isort ltN fs).map nmD), nmD t, .bl (true != (ableB (needsOf b t) (isort ltN fs) == (j0 == 0)))]] := by rw [List.map_append]; rfl
  have eu : setT (isort ltN fs) = .tup ((isort ltN fs).map nmD) := rfl
  rw [em, eu]
  simp only [b0__law_places, evl, evl2, evl3, evl4, evl6, prim, slotsE, f6, f7, f8, f9, if_true, nd1, nd0, e1, it, hc, hl, e2, e3', gso, toD_d, ei, e4, e5, Bool.false_bne, e6, l3, hll]
theorem places_loop (un : Up ltN ns) (gn : GS ns) (z0 : 0 < ns.length) (zn : ns.length ≤ 8) (g : GBp b) (hb : b.map (·.1) = ns) {v2 v3 : Sl} : ∀ (ds : List D) (k : Nat) (u : List D) (ps : List Pl) (s6 s7 s8 s9 : Sl), Urn k u → k + 1000 * ds.length + 1000 < 2 ^ 59 → ps.length + ds.length ≤ 60 → (∀ p ∈ ps, PlOk ns p) → s6.free = true → s7.free = true → s8.free = true → s9.free = true →
    ∃ (u' : List D) (qs : List Pl) (t6 t7 t8 t9 : Sl), Urn (k + 1000 * ds.length) u' ∧ (∀ p ∈ qs, PlOk ns p) ∧ qs.length = ps.length + ds.length ∧
      forL b0__law_places ds [.io (.l u), .val (setT ns), v2, v3, .own (.d false (b.map fun r => nmD r.1) (b.map fun r => lotE true r.2)), .own (.l (ps.map (plE true))), s6, s7, s8, s9, .no] = .nx [.io (.l u'), .val (setT ns), v2, v3, .own (.d false (b.map fun r => nmD r.1) (b.map fun r => lotE true r.2)), .own (.l (qs.map (plE true))), t6, t7, t8, t9, .no]
  | [], k, u, ps, s6, s7, s8, s9, hu, _, _, hp, _, _, _, _ => ⟨u, ps, s6, s7, s8, s9, hu, hp, by simp, rfl⟩
  | d :: ds, k, u, ps, s6, s7, s8, s9, hu, hk, hl, hp, f6, f7, f8, f9 => by
    rw [List.length_cons] at hk hl
    obtain ⟨u1, p, a7, a8, a9, h1, h2, q7, q8, q9, e⟩ := b0_places un gn z0 zn g hb hu (by omega) d (ps := ps) (by omega) (v2 := v2) (v3 := v3) f6 f7 f8 f9
    obtain ⟨u', qs, t6, t7, t8, t9, r1, r2, r3, r4⟩ := places_loop un gn z0 zn g hb (v2 := v2) (v3 := v3) ds (k + 1000) u1 (ps ++ [p]) (.val d) a7 a8 a9 h1 (by omega) (by rw [List.length_append, List.length_singleton]; omega) (fun x hx => by
      rcases List.mem_append.mp hx with z | z
      · exact hp x z
      · rw [List.mem_singleton.mp z]; exact h2) rfl q7 q8 q9
    refine ⟨u', qs, t6, t7, t8, t9, r1.mono (by rw [List.length_cons]; omega), r2, by rw [r3]; simp; omega, ?_⟩
    rw [forL_step e]
    exact r4
end
theorem places_ok {ns : NS} {b : Bk} (un : Up ltN ns) (gn : GS ns) (z0 : 0 < ns.length) (zn : ns.length ≤ 8) (g : GBp b) (hb : b.map (·.1) = ns) {k : Nat} {u : List D} (hu : Urn k u) (m : Nat) (hm : m ≤ 12) (hk : k + 20000 < 2 ^ 59) : ∃ (u' : List D) (ps : List Pl), Urn (k + 12000) u' ∧ (∀ p ∈ ps, PlOk ns p) ∧ ps.length ≤ 12 ∧
    den__law_places [.io (.l u), .val (setT ns), .val (.ptp (b.map (rowE true))), .val (.int m)] = .ok (.d (plsE true ps)) [.io (.l u'), .no, .no, .no] := by
  have hr : (rng 0 m).length = m := by simp [rng]
  obtain ⟨u', ps, t6, t7, t8, t9, h1, h2, h3, e⟩ := places_loop un gn z0 zn g hb (v2 := .val (.ptp (b.map (rowE true)))) (v3 := .val (.int m)) (rng 0 m) k u [] .no .no .no .no hu (by rw [hr]; omega) (by rw [hr, List.length_nil]; omega) (fun p hp => by cases hp) rfl rfl rfl rfl
  rw [hr] at h1 h3
  rw [List.length_nil, Nat.zero_add] at h3
  refine ⟨u', ps, h1.mono (by omega), h2, by omega, ?_⟩
  have hd := dict_bk g
  have l0 : (([] : List D).length ≤ lim) = True := eq_true (by decide)
  have hsm := small62 (n := m) (by omega)
  have htn := toNatI m
  have e : forL b0__law_places (rng 0 m) [.io (.l u), .val (setT ns), .val (.ptp (b.map (rowE true))), .val (.int m), .own (.d false (b.map fun r => nmD r.1) (b.map fun r => lotE true r.2)), .own (.l []), .no, .no, .no, .no, .no] = _ := e
  show DR.of (f__law_places [.io (.l u), .val (setT ns), .val (.ptp (b.map (rowE true))), .val (.int m), .no, .no, .no, .no, .no, .no, .no]) [.io (.l u), .val (setT ns), .val (.ptp (b.map (rowE true))), .val (.int m)] = _
  rw [nE__law_places]
  simp only [evl, evl2, evl3, evl4, evl6, prim, slotsE, hd, l0, if_true, hsm, htn, notIo, PR.slot, e, toD_l]
  rfl
end U
end

section
set_option Elab.async false
set_option linter.all false
set_option maxRecDepth 100000
namespace U
open PySem PySem.Spec PyProof.Rows L2
/-! the plain law of k75: the lowest needs -/
theorem subB_self (a : NS) : subB a a = true := subB_iff.mpr fun _ h => h
/-- all of them rise -/
theorem allN_up : ∀ (lots : List NS) (found : List (List NS)), (∀ own ∈ found, Up ltS own) → ∀ own ∈ lots.foldl stepN found, Up ltS own
  | [], found, h => h
  | lot :: lots, found, h => allN_up lots (stepN found lot) fun own ho => by
    rcases List.mem_append.mp ho with q | q
    · exact h own q
    · obtain ⟨o, ho', rfl⟩ := List.mem_map.mp q
      obtain ⟨h1, h2⟩ := List.mem_filter.mp ho'
      refine isort_up oS (List.nodup_append.mpr ⟨up_nodup oS (h o h1), by simp, fun a ha b hb e => ?_⟩)
      rw [List.mem_singleton.mp hb] at e
      subst e
      have := List.all_eq_true.mp h2 a ha
      rw [subB_self] at this
      cases this
/-- .. are none within another -/
theorem allN_anti : ∀ (lots : List NS) (found : List (List NS)), (∀ own ∈ found, ∀ x ∈ own, ∀ y ∈ own, subB x y = true → x = y) → ∀ own ∈ lots.foldl stepN found, ∀ x ∈ own, ∀ y ∈ own, subB x y = true → x = y
  | [], found, h => h
  | lot :: lots, found, h => allN_anti lots (stepN found lot) fun own ho => by
    rcases List.mem_append.mp ho with q | q
    · exact h own q
    · obtain ⟨o, ho', rfl⟩ := List.mem_map.mp q
      obtain ⟨h1, h2⟩ := List.mem_filter.mp ho'
      have inc : ∀ x ∈ o, subB x lot = false ∧ subB lot x = false := fun x hx => by
        have := List.all_eq_true.mp h2 x hx
        simpa using this
      intro x hx y hy s
      rcases List.mem_append.mp ((isort_perm _).mem_iff.mp hx) with a | a <;> rcases List.mem_append.mp ((isort_perm _).mem_iff.mp hy) with b | b
      · exact h o h1 x a y b s
      · rw [List.mem_singleton.mp b, (inc x a).1] at s; cases s
      · rw [List.mem_singleton.mp a, (inc y b).2] at s; cases s
      · rw [List.mem_singleton.mp a, List.mem_singleton.mp b]
/-- .. and of those -/
theorem allN_of : ∀ (lots : List NS) (found : List (List NS)) (S : NS → Prop), (∀ own ∈ found, ∀ x ∈ own, S x) → (∀ x ∈ lots, S x) → ∀ own ∈ lots.foldl stepN found, ∀ x ∈ own, S x
  | [], found, S, h, _ => h
  | lot :: lots, found, S, h, hl => allN_of lots (stepN found lot) S (fun own ho => by
    rcases List.mem_append.mp ho with q | q
    · exact h own q
    · obtain ⟨o, ho', rfl⟩ := List.mem_map.mp q
      intro x hx
      rcases List.mem_append.mp ((isort_perm _).mem_iff.mp hx) with a | a
      · exact h o (List.mem_filter.mp ho').1 x a
      · rw [List.mem_singleton.mp a]; exact hl lot (List.mem_cons_self ..)) (fun x hx => hl x (List.mem_cons_of_mem _ hx))
/-- two of them that allow the same are the same -/
theorem same_needs {lots : List NS} {m n : List NS} (um : Up ltS m) (un : Up ltS n) (am : ∀ x ∈ m, ∀ y ∈ m, subB x y = true → x = y) (an : ∀ x ∈ n, ∀ y ∈ n, subB x y = true → x = y) (lm : ∀ x ∈ m, x ∈ lots) (ln : ∀ x ∈ n, x ∈ lots) (hu : ∀ x ∈ lots, Up ltN x) (h : ∀ x ∈ lots, ableB m x = ableB n x) : m = n := by
  have key : ∀ {m n : List NS}, (∀ x ∈ m, ∀ y ∈ m, subB x y = true → x = y) → (∀ x ∈ m, x ∈ lots) → (∀ x ∈ n, x ∈ lots) → (∀ x ∈ lots, ableB m x = ableB n x) → ∀ x ∈ m, x ∈ n := fun {m n} am lm ln h x hx => by
    have a1 : ableB m x = true := able_iff.mpr ⟨x, hx, fun _ q => q⟩
    rw [h x (lm x hx)] at a1
    obtain ⟨y, hy, hs⟩ := able_iff.mp a1
    have a2 : ableB n y = true := able_iff.mpr ⟨y, hy, fun _ q => q⟩
    rw [← h y (ln y hy)] at a2
    obtain ⟨z, hz, hs2⟩ := able_iff.mp a2
    have e : z = x := am z hz x hx (subB_iff.mpr fun w hw => hs w (hs2 w hw))
    subst e
    have : z = y := up_one oN (hu z (lm z hz)) (hu y (ln y hy)) fun w => ⟨hs2 w, hs w⟩
    rw [this]; exact hy
  exact up_one oS um un fun x => ⟨key am lm ln h x, key an ln lm (fun x hx => (h x hx).symm) x⟩
/-- how many are allowed -/
def cntB (lots : List NS) (n : List NS) : Nat := (lots.filter (ableB n)).length
theorem cnt_le {lots m n : List NS} (h : ∀ x ∈ lots, ableB m x = true → ableB n x = true) : cntB lots m ≤ cntB lots n := by
  unfold cntB
  induction lots with
  | nil => exact Nat.le_refl _
  | cons x l ih =>
    have i := ih fun y hy => h y (List.mem_cons_of_mem _ hy)
    have hx := h x (List.mem_cons_self ..)
    rw [List.filter_cons, List.filter_cons]
    cases a : ableB m x <;> cases b : ableB n x <;> simp_all <;> omega
theorem cnt_eq {lots m n : List NS} (h : ∀ x ∈ lots, ableB m x = true → ableB n x = true) (e : cntB lots m = cntB lots n) : ∀ x ∈ lots, ableB m x = ableB n x := by
  induction lots with
  | nil => intro x hx; cases hx
  | cons x l ih =>
    have h' : ∀ y ∈ l, ableB m y = true → ableB n y = true := fun y hy => h y (List.mem_cons_of_mem _ hy)
    have i := cnt_le h'
    have hx := h x (List.mem_cons_self ..)
    unfold cntB at e i ih
    rw [List.filter_cons, List.filter_cons] at e
    intro y hy
    cases a : ableB m x <;> cases b : ableB n x
    · rw [a, b] at e
      rcases List.mem_cons.mp hy with q | q
      · rw [q, a, b]
      · exact ih h' (by simpa using e) y q
    · rw [a, b] at e; simp at e; omega
    · rw [a, b] at hx; exact absurd (hx rfl) (by simp)
    · rw [a, b] at e
      rcases List.mem_cons.mp hy with q | q
      · rw [q, a, b]
      · exact ih h' (by simpa using e) y q
end U
end

section
set_option Elab.async false
set_option linter.all false
set_option maxRecDepth 100000
namespace U
open PySem PySem.Spec PyProof.Rows L2
def leastL (l : List NS) : List NS := l.filter fun x => !(l.any fun o => decide (o ≠ x) && subB o x)
def leastB (l : List NS) : List NS := sof' ltS (leastL l)
theorem least_mem {l : List NS} {x : NS} : x ∈ leastB l ↔ x ∈ l ∧ ∀ o ∈ l, (∀ y ∈ o, y ∈ x) → o = x := by
  unfold leastB leastL
  rw [sof_mem, List.mem_filter, Bool.not_eq_true', List.any_eq_false]
  refine and_congr Iff.rfl ⟨fun h o ho hs => ?_, fun h o ho e => ?_⟩
  · have := h o ho
    rw [subB_iff.mpr hs, Bool.and_true, decide_eq_true_eq] at this
    exact Classical.not_not.mp this
  · rw [Bool.and_eq_true, decide_eq_true_eq] at e
    exact e.1 (h o ho (subB_iff.mp e.2))
theorem least_able {l : List NS} (hl : ∀ a ∈ l, Up ltN a) (x : NS) : ableB (leastB l) x = ableB l x := bool_iff (by
  rw [able_iff, able_iff]
  refine ⟨fun ⟨u, hu, hs⟩ => ⟨u, (least_mem.mp hu).1, hs⟩, fun ⟨u, hu, hs⟩ => ?_⟩
  obtain ⟨t, ht, h1, h2⟩ := least_below hl u.length u (Nat.le_refl _) hu
  exact ⟨t, least_mem.mpr ⟨ht, h2⟩, fun y hy => hs y (h1 y hy)⟩)
theorem least_anti {l : List NS} : ∀ x ∈ leastB l, ∀ y ∈ leastB l, subB x y = true → x = y := fun x hx y hy s => (least_mem.mp hy).2 x (least_mem.mp hx).1 (subB_iff.mp s)
/-- a set of lots, none within another, of these lots: it is among all needs -/
theorem allN_has {rest : NS} (nr : rest.Nodup) {m : List NS} (um : Up ltS m) (am : ∀ x ∈ m, ∀ y ∈ m, subB x y = true → x = y) (lm : ∀ x ∈ m, x ∈ setsB rest) : m ∈ allN (setsB rest) := by
  let c := (setsB rest).filter fun l => inB l m
  have hc : ∀ l, l ∈ c ↔ l ∈ m := fun l => by
    show l ∈ (setsB rest).filter _ ↔ _
    rw [List.mem_filter, inB_iff]
    exact ⟨fun q => q.2, fun q => ⟨lm l q, q⟩⟩
  have nd : c.Nodup := ((up_nodup oP (sets_up nr))).filter _
  obtain ⟨n, hn, pn⟩ := allN_all (setsB rest) (found := [[]]) (own := []) (c := c) (List.mem_singleton.mpr rfl) List.filter_sublist (fun x hx => by cases hx) (List.Pairwise.imp_of_mem (fun {x y} hx hy ne => by
    rw [Bool.or_eq_false_iff]
    exact ⟨Bool.eq_false_iff.mpr fun q => ne (am x ((hc x).mp hx) y ((hc y).mp hy) q), Bool.eq_false_iff.mpr fun q => ne (am y ((hc y).mp hy) x ((hc x).mp hx) q).symm⟩) nd)
  have un : Up ltS n := allN_up (setsB rest) [[]] (fun o ho => by rw [List.mem_singleton.mp ho]; exact List.Pairwise.nil) n hn
  have e : n = m := up_one oS un um fun x => by rw [pn.mem_iff, List.nil_append, hc]
  rw [← e]; exact hn
section
variable {rest : NS} {ps : List Pl} {t : Nm}
def fitL (rest : NS) (ps : List Pl) (t : Nm) : List (List NS) := (allN (setsB rest)).filter (fitsN ps t)
/-- of those that fit one that allows least -/
theorem low_fits (nr : rest.Nodup) (hp : ∀ p ∈ ps, p.nm = t → p.up ∈ setsB rest) (hu : ∀ p ∈ ps, p.nm = t → Up ltN p.up) (h : clearB ps t = true) : leastB (toldB ps t true) ∈ fitL rest ps t := by
  have htr : ∀ a ∈ toldB ps t true, Up ltN a := fun a ha => by
    obtain ⟨p, hp', e1, e3, rfl⟩ := told_mem.mp ha
    exact hu p hp' e1
  refine List.mem_filter.mpr ⟨allN_has nr (sof_up oS _) least_anti (fun x hx => ?_), fits_iff.mpr fun p hp' e => ?_⟩
  · obtain ⟨p, hp', e1, e3, rfl⟩ := told_mem.mp (least_mem.mp hx).1
    exact hp p hp' e1
  · rw [least_able htr]
    cases w : p.ok with
    | true => exact able_iff.mpr ⟨p.up, told_mem.mpr ⟨p, hp', e, w, rfl⟩, fun _ q => q⟩
    | false =>
      refine Bool.eq_false_iff.mpr fun a => ?_
      obtain ⟨l, hl, hx⟩ := able_iff.mp a
      obtain ⟨q, hq, e1, e3, rfl⟩ := told_mem.mp hl
      exact clear_iff.mp h q hq p hp' e1 e e3 w hx
theorem low_below (hu : ∀ p ∈ ps, p.nm = t → Up ltN p.up) {n : List NS} (hn : n ∈ fitL rest ps t) (x : NS) (h : ableB (leastB (toldB ps t true)) x = true) : ableB n x = true := by
  obtain ⟨l, hl, hx⟩ := able_iff.mp h
  obtain ⟨p, hp', e1, e3, rfl⟩ := told_mem.mp (least_mem.mp hl).1
  have := fits_iff.mp (List.mem_filter.mp hn).2 p hp' e1
  rw [e3] at this
  obtain ⟨nd, h1, h2⟩ := able_iff.mp this
  exact able_iff.mpr ⟨nd, h1, fun y hy => hx y (h2 y hy)⟩
end
end U
end

section
set_option Elab.async false
set_option linter.all false
set_option maxRecDepth 100000
namespace U
open PySem PySem.Spec PyProof.Rows L2
/-! the plain law of k75: the highest needs -/
def wideL (lots : List NS) (bar : NS) : List NS := lots.filter fun l => !subB l bar
def moreL (others : NS) (lots : List NS) (bar : NS) : List NS := (lots.filter fun l => subB l bar).flatMap fun l => (others.filter fun x => !inB x bar).map fun x => sof' ltN (l ++ [x])
def stepH (others : NS) (lots : List NS) (bar : NS) : List NS := leastB (sof' ltS (wideL lots bar ++ moreL others lots bar))
def pastB (others : NS) (bars : List NS) : List NS := sof' ltS (bars.foldl (stepH others) [[]])
theorem more_mem {others : NS} {lots : List NS} {bar u : NS} : u ∈ moreL others lots bar ↔ ∃ l ∈ lots, (∀ y ∈ l, y ∈ bar) ∧ ∃ x ∈ others, x ∉ bar ∧ u = sof' ltN (l ++ [x]) := by
  unfold moreL
  rw [List.mem_flatMap]
  constructor
  · rintro ⟨l, hl, hu⟩
    obtain ⟨h1, h2⟩ := List.mem_filter.mp hl
    obtain ⟨x, hx, e⟩ := List.mem_map.mp hu
    obtain ⟨h3, h4⟩ := List.mem_filter.mp hx
    refine ⟨l, h1, subB_iff.mp h2, x, h3, ?_, e.symm⟩
    rw [Bool.not_eq_true'] at h4
    exact inB_no.mp h4
  · rintro ⟨l, hl, h2, x, h3, h4, rfl⟩
    exact ⟨l, List.mem_filter.mpr ⟨hl, subB_iff.mpr h2⟩, List.mem_map.mpr ⟨x, List.mem_filter.mpr ⟨h3, by rw [inB_no.mpr h4]; rfl⟩, rfl⟩⟩
theorem stepH_of {others : NS} {lots : List NS} {bar : NS} (h : ∀ l ∈ lots, Up ltN l ∧ ∀ y ∈ l, y ∈ others) : ∀ l ∈ wideL lots bar ++ moreL others lots bar, Up ltN l ∧ ∀ y ∈ l, y ∈ others := fun l hl => by
  rcases List.mem_append.mp hl with q | q
  · exact h l (List.mem_filter.mp q).1
  · obtain ⟨m, hm, _, x, hx, _, rfl⟩ := more_mem.mp q
    refine ⟨sof_up oN _, fun y hy => ?_⟩
    rcases List.mem_append.mp (sof_mem.mp hy) with z | z
    · exact (h m hm).2 y z
    · rw [List.mem_singleton.mp z]; exact hx
theorem stepH_good {others : NS} {lots : List NS} {bar : NS} (h : ∀ l ∈ lots, Up ltN l ∧ ∀ y ∈ l, y ∈ others) : ∀ l ∈ stepH others lots bar, Up ltN l ∧ ∀ y ∈ l, y ∈ others := fun l hl => stepH_of h l (sof_mem.mp (least_mem.mp hl).1)
theorem able_sof {l : List NS} (x : NS) : ableB (sof' ltS l) x = ableB l x := bool_iff (by
  rw [able_iff, able_iff]
  exact ⟨fun ⟨u, hu, hs⟩ => ⟨u, sof_mem.mp hu, hs⟩, fun ⟨u, hu, hs⟩ => ⟨u, sof_mem.mpr hu, hs⟩⟩)
theorem stepH_able {others : NS} {lots : List NS} {bar : NS} (h : ∀ l ∈ lots, Up ltN l ∧ ∀ y ∈ l, y ∈ others) {x : NS} (hx : ∀ y ∈ x, y ∈ others) : ableB (stepH others lots bar) x = true ↔ ableB lots x = true ∧ ¬ ∀ y ∈ x, y ∈ bar := by
  unfold stepH
  rw [least_able (fun a ha => (stepH_of h a (sof_mem.mp ha)).1), able_sof, able_iff, able_iff]
  constructor
  · rintro ⟨u, hu, hs⟩
    rcases List.mem_append.mp hu with q | q
    · obtain ⟨h1, h2⟩ := List.mem_filter.mp q
      refine ⟨⟨u, h1, hs⟩, fun hb => ?_⟩
      rw [subB_iff.mpr fun y hy => hb y (hs y hy)] at h2
      cases h2
    · obtain ⟨l, hl, _, z, hz, hzb, rfl⟩ := more_mem.mp q
      refine ⟨⟨l, hl, fun y hy => hs y (sof_mem.mpr (List.mem_append_left _ hy))⟩, fun hb => hzb (hb z (hs z (sof_mem.mpr (List.mem_append_right _ (List.mem_singleton.mpr rfl)))))⟩
  · rintro ⟨⟨l, hl, hs⟩, nb⟩
    by_cases c : ∀ y ∈ l, y ∈ bar
    · have : ∃ z ∈ x, z ∉ bar := Classical.byContradiction fun q => nb fun y hy => Classical.byContradiction fun r => q ⟨y, hy, r⟩
      obtain ⟨z, hz, hzb⟩ := this
      refine ⟨sof' ltN (l ++ [z]), List.mem_append_right _ (more_mem.mpr ⟨l, hl, c, z, hx z hz, hzb, rfl⟩), fun y hy => ?_⟩
      rcases List.mem_append.mp (sof_mem.mp hy) with q | q
      · exact hs y q
      · rw [List.mem_singleton.mp q]; exact hz
    · refine ⟨l, List.mem_append_left _ (List.mem_filter.mpr ⟨hl, ?_⟩), hs⟩
      rw [Bool.not_eq_true']
      exact Bool.eq_false_iff.mpr fun q => c (subB_iff.mp q)
theorem foldH {others : NS} : ∀ (bars lots : List NS), (∀ l ∈ lots, Up ltN l ∧ ∀ y ∈ l, y ∈ others) → (∀ x ∈ lots, ∀ y ∈ lots, subB x y = true → x = y) →
    (∀ l ∈ bars.foldl (stepH others) lots, Up ltN l ∧ ∀ y ∈ l, y ∈ others) ∧ (∀ x ∈ bars.foldl (stepH others) lots, ∀ y ∈ bars.foldl (stepH others) lots, subB x y = true → x = y) ∧
      ∀ x : NS, (∀ y ∈ x, y ∈ others) → (ableB (bars.foldl (stepH others) lots) x = true ↔ ableB lots x = true ∧ ∀ bar ∈ bars, ¬ ∀ y ∈ x, y ∈ bar)
  | [], lots, h, ha => ⟨h, ha, fun x _ => ⟨fun q => ⟨q, fun b hb => by cases hb⟩, fun q => q.1⟩⟩
  | bar :: bars, lots, h, ha => by
    obtain ⟨h1, h2, h3⟩ := foldH bars (stepH others lots bar) (stepH_good h) least_anti
    refine ⟨h1, h2, fun x hx => ?_⟩
    rw [List.foldl_cons, h3 x hx, stepH_able h hx]
    constructor
    · rintro ⟨⟨a, b⟩, c⟩
      refine ⟨a, fun r hr => ?_⟩
      rcases List.mem_cons.mp hr with q | q
      · rw [q]; exact b
      · exact c r q
    · rintro ⟨a, b⟩
      exact ⟨⟨a, b bar (List.mem_cons_self ..)⟩, fun r hr => b r (List.mem_cons_of_mem _ hr)⟩
section
variable {rest : NS} {ps : List Pl} {t : Nm}
theorem past_able (bars : List NS) {x : NS} (hx : ∀ y ∈ x, y ∈ rest) : ableB (pastB rest bars) x = true ↔ ∀ bar ∈ bars, ¬ ∀ y ∈ x, y ∈ bar := by
  obtain ⟨_, _, h3⟩ := foldH (others := rest) bars [[]] (fun l hl => by rw [List.mem_singleton.mp hl]; exact ⟨List.Pairwise.nil, fun y hy => by cases hy⟩) (fun x hx y hy _ => by rw [List.mem_singleton.mp hx, List.mem_singleton.mp hy])
  unfold pastB
  rw [able_sof, h3 x hx]
  exact ⟨fun q => q.2, fun q => ⟨able_iff.mpr ⟨[], List.mem_singleton.mpr rfl, fun y hy => by cases hy⟩, q⟩⟩
theorem high_fits (nr : rest.Nodup) (hp : ∀ p ∈ ps, p.nm = t → p.up ∈ setsB rest) (h : clearB ps t = true) : pastB rest (toldB ps t false) ∈ fitL rest ps t := by
  obtain ⟨h1, h2, _⟩ := foldH (others := rest) (toldB ps t false) [[]] (fun l hl => by rw [List.mem_singleton.mp hl]; exact ⟨List.Pairwise.nil, fun y hy => by cases hy⟩) (fun x hx y hy _ => by rw [List.mem_singleton.mp hx, List.mem_singleton.mp hy])
  have hsub : ∀ p ∈ ps, p.nm = t → ∀ y ∈ p.up, y ∈ rest := fun p hp' e y hy => (isort_perm rest).mem_iff.mp ((mem_sets.mp (hp p hp' e)).subset hy)
  refine List.mem_filter.mpr ⟨allN_has nr (sof_up oS _) (fun x hx y hy s => h2 x (sof_mem.mp hx) y (sof_mem.mp hy) s) (fun x hx => sub_sets nr (h1 x (sof_mem.mp hx)).1 (h1 x (sof_mem.mp hx)).2), fits_iff.mpr fun p hp' e => ?_⟩
  cases w : p.ok with
  | true =>
    refine (past_able _ (hsub p hp' e)).mpr fun bar hb hs => ?_
    obtain ⟨q, hq, e1, e3, rfl⟩ := told_mem.mp hb
    exact clear_iff.mp h p hp' q hq e e1 w e3 hs
  | false =>
    refine Bool.eq_false_iff.mpr fun a => ?_
    exact (past_able _ (hsub p hp' e)).mp a p.up (told_mem.mpr ⟨p, hp', e, w, rfl⟩) fun _ q => q
theorem high_above {n : List NS} (hn : n ∈ fitL rest ps t) {x : NS} (hx : ∀ y ∈ x, y ∈ rest) (h : ableB n x = true) : ableB (pastB rest (toldB ps t false)) x = true := by
  refine (past_able _ hx).mpr fun bar hb hs => ?_
  obtain ⟨q, hq, e1, e3, rfl⟩ := told_mem.mp hb
  have := fits_iff.mp (List.mem_filter.mp hn).2 q hq e1
  rw [e3] at this
  obtain ⟨nd, h1, h2⟩ := able_iff.mp h
  rw [able_iff.mpr ⟨nd, h1, fun y hy => hs y (h2 y hy)⟩] at this
  cases this
end
end U
end

section
set_option Elab.async false
set_option linter.all false
set_option maxRecDepth 100000
namespace U
open PySem PySem.Spec PyProof.Rows L2
section
variable {α : Type} {lt : α → α → Bool}
theorem isort_head [DecidableEq α] (O : Ord lt) {m : α} : ∀ l : List α, m ∈ l → (∀ x ∈ l, x ≠ m → lt m x = true) → ∃ r, isort lt l = m :: r
  | [], h, _ => by cases h
  | a :: l, h, hm => by
    show ∃ r, ins lt a (isort lt l) = m :: r
    by_cases c : a = m
    · subst c
      cases q : isort lt l with
      | nil => exact ⟨[], rfl⟩
      | cons b r =>
        have hb : b ∈ l := (isort_perm l).mem_iff.mp (by rw [q]; exact List.mem_cons_self ..)
        have hf : lt b a = false := by
          by_cases e : b = a
          · rw [e]; exact O.irr a
          · exact O.asym (hm b (List.mem_cons_of_mem _ hb) e)
        exact ⟨b :: r, by simp [ins, hf]⟩
    · have hml : m ∈ l := by
        rcases List.mem_cons.mp h with q | q
        · exact absurd q.symm c
        · exact q
      obtain ⟨r, e⟩ := isort_head O l hml fun x hx => hm x (List.mem_cons_of_mem _ hx)
      rw [e]
      exact ⟨ins lt a r, by simp [ins, hm a (List.mem_cons_self ..) c]⟩
theorem ins_end {a : α} : ∀ s : List α, (∀ b ∈ s, lt b a = true) → ins lt a s = s ++ [a]
  | [], _ => rfl
  | b :: s, h => by
    have e := ins_end s fun x hx => h x (List.mem_cons_of_mem _ hx)
    simp [ins, h b (List.mem_cons_self ..), e]
theorem ins_before {a m : α} (h : lt m a = false) : ∀ s : List α, ∃ r, ins lt a (s ++ [m]) = r ++ [m]
  | [] => ⟨[a], by simp [ins, h]⟩
  | b :: s => by
    obtain ⟨r, e⟩ := ins_before h s
    cases q : lt b a with
    | false => exact ⟨a :: b :: s, by simp [ins, q]⟩
    | true => exact ⟨b :: r, by simp [ins, q, e]⟩
theorem isort_last [DecidableEq α] (O : Ord lt) {m : α} : ∀ l : List α, m ∈ l → (∀ x ∈ l, x ≠ m → lt x m = true) → ∃ r, isort lt l = r ++ [m]
  | [], h, _ => by cases h
  | a :: l, h, hm => by
    show ∃ r, ins lt a (isort lt l) = r ++ [m]
    by_cases hml : m ∈ l
    · obtain ⟨r, e⟩ := isort_last O l hml fun x hx => hm x (List.mem_cons_of_mem _ hx)
      rw [e]
      refine ins_before ?_ r
      by_cases c : a = m
      · rw [c]; exact O.irr m
      · exact O.asym (hm a (List.mem_cons_self ..) c)
    · have c : m = a := by
        rcases List.mem_cons.mp h with q | q
        · exact q
        · exact absurd q hml
      subst c
      refine ⟨isort lt l, ins_end _ fun b hb => ?_⟩
      have hb' := (isort_perm l).mem_iff.mp hb
      exact hm b (List.mem_cons_of_mem _ hb') fun e => hml (by rw [← e]; exact hb')
end
section
variable {rest : NS} {ps : List Pl} {t : Nm}
theorem fit_up {n : List NS} (h : n ∈ fitL rest ps t) : Up ltS n := allN_up (setsB rest) [[]] (fun o ho => by rw [List.mem_singleton.mp ho]; exact List.Pairwise.nil) n (List.mem_filter.mp h).1
theorem fit_anti {n : List NS} (h : n ∈ fitL rest ps t) : ∀ x ∈ n, ∀ y ∈ n, subB x y = true → x = y := allN_anti (setsB rest) [[]] (fun o ho x hx => by rw [List.mem_singleton.mp ho] at hx; cases hx) n (List.mem_filter.mp h).1
theorem fit_of {n : List NS} (h : n ∈ fitL rest ps t) : ∀ x ∈ n, x ∈ setsB rest := allN_of (setsB rest) [[]] (fun x => x ∈ setsB rest) (fun o ho x hx => by rw [List.mem_singleton.mp ho] at hx; cases hx) (fun x hx => hx) n (List.mem_filter.mp h).1
theorem sets_ups (nr : rest.Nodup) {x : NS} (h : x ∈ setsB rest) : Up ltN x := List.Pairwise.sublist (mem_sets.mp h) (isort_up oN nr)
theorem cnt_lt (nr : rest.Nodup) {m n : List NS} (hm : m ∈ fitL rest ps t) (hn : n ∈ fitL rest ps t) (h : ∀ x ∈ setsB rest, ableB m x = true → ableB n x = true) (ne : m ≠ n) : cntB (setsB rest) m < cntB (setsB rest) n := by
  rcases Nat.lt_or_eq_of_le (cnt_le h) with q | q
  · exact q
  · exact absurd (same_needs (fit_up hm) (fit_up hn) (fit_anti hm) (fit_anti hn) (fit_of hm) (fit_of hn) (fun x hx => sets_ups nr hx) (cnt_eq h q)) ne
theorem low_least (nr : rest.Nodup) (hp : ∀ p ∈ ps, p.nm = t → p.up ∈ setsB rest) (hu : ∀ p ∈ ps, p.nm = t → Up ltN p.up) (h : clearB ps t = true) {n : List NS} (hn : n ∈ fitL rest ps t) (ne : n ≠ leastB (toldB ps t true)) : cntB (setsB rest) (leastB (toldB ps t true)) < cntB (setsB rest) n :=
  cnt_lt nr (low_fits nr hp hu h) hn (fun x _ => low_below hu hn x) ne.symm
theorem high_most (nr : rest.Nodup) (hp : ∀ p ∈ ps, p.nm = t → p.up ∈ setsB rest) (h : clearB ps t = true) {n : List NS} (hn : n ∈ fitL rest ps t) (ne : n ≠ pastB rest (toldB ps t false)) : cntB (setsB rest) n < cntB (setsB rest) (pastB rest (toldB ps t false)) :=
  cnt_lt nr hn (high_fits nr hp h) (fun x hx => high_above hn fun y hy => (isort_perm rest).mem_iff.mp ((mem_sets.mp hx).subset hy)) ne
end
end U
end

section
set_option Elab.async false
set_option linter.all false
set_option maxRecDepth 100000
namespace U
open PySem PySem.Spec PyProof.Rows L2
theorem c1_least {h : Bool} {l : List NS} (gl : GL l) (z1 : l.length ≤ 200) (z2 : ∀ s ∈ l, s.length ≤ 60) {x : NS} (hx : x ∈ l) : c1_least_of (setT x) [.val (sq h (l.map setT)), .no, .no] = .ok (if (!(l.any fun o => decide (o ≠ x) && subB o x)) then some (setT x) else none) [.val (sq h (l.map setT)), .no, .no] := by
  have hc : compL c0_least_of (l.map setT) [.val (sq h (l.map setT)), .val (setT x), .no] [] = .ok ((l.filter fun o => !decide (o = x)).map fun o => .bl (subB o x)) [.val (sq h (l.map setT)), .val (setT x), .no] :=
    compL_filt l (fun o ho => by
      have e1 := gEq_sets true (gl o ho) (gl x hx)
      have e2 := is_in_ok (gl o ho) (gl x hx) (z2 o ho)
      rw [Bool.true_bne] at e1
      generalize decide (o = x) = b1 at e1 ⊢
      cases b1
      · rw [Bool.not_false] at e1
        simp only [c0_least_of, evl, evl2, evl3, evl4, prim, slotsE, if_true, e1, e2, nd0, Bool.not_false]
      · rw [Bool.not_true] at e1
        simp only [c0_least_of, evl, evl2, evl3, evl4, prim, slotsE, if_true, e1, e2, nd0, Bool.not_true, Bool.false_eq_true, if_false]) (lim_big (by omega))
  have it : (sq h (l.map setT)).items = some (l.map setT) := sq_items h _
  have ha := gAny_map (fun o => subB o x) (l.filter fun o => !decide (o = x))
  have ea : (l.filter fun o => !decide (o = x)).any (fun o => subB o x) = l.any fun o => decide (o ≠ x) && subB o x := by
    rw [List.any_filter]
    congr 1
    funext o
    by_cases c : o = x <;> simp [c]
  rw [ea] at ha
  generalize (l.any fun o => decide (o ≠ x) && subB o x) = bb at ha ⊢
  cases bb
  · simp only [c1_least_of, evl, evl2, evl3, evl4, evl6, prim, slotsE, if_true, it, hc, ha, Bool.not_false]
  · simp only [c1_least_of, evl, evl2, evl3, evl4, evl6, prim, slotsE, if_true, it, hc, ha, Bool.not_true, Bool.false_eq_true, if_false]
theorem least_of_ok {h : Bool} {l : List NS} (gl : GL l) (z1 : l.length ≤ 200) (z2 : ∀ s ∈ l, s.length ≤ 60) (few : (leastB l).length < 64) : den_least_of [.val (sq h (l.map setT))] = .ok (.d (lotE true (leastB l))) [.no] := by
  have hc : compL c1_least_of (l.map setT) [.val (sq h (l.map setT)), .no, .no] [] = .ok ((leastL l).map setT) [.val (sq h (l.map setT)), .no, .no] := compL_filt l (fun x hx => c1_least gl z1 z2 hx) (lim_big (by omega))
  have it : (sq h (l.map setT)).items = some (l.map setT) := sq_items h _
  have hd : (dd (leastL l)).length < 64 := by
    have : (leastB l).length = (dd (leastL l)).length := (isort_perm _).length_eq
    omega
  have hz : (leastL l).length ≤ 200 := Nat.le_trans (List.length_filter_le ..) z1
  have es := set_of_ok (l := leastL l) (fun s hs => gl s (List.mem_filter.mp hs).1) (lim_big (by omega)) hd
  show DR.of (f_least_of [.val (sq h (l.map setT)), .no, .no]) [.val (sq h (l.map setT))] = _
  rw [nE_least_of]
  simp only [evl, evl2, evl3, evl4, evl6, prim, slotsE, it, hc, toD_l, es, nd0, if_true]
  rfl
theorem check_fit_ok {ps : List Pl} (g : ∀ p ∈ ps, GP p) (z : ps.length ≤ 12) {ns : NS} (gn : GS ns) (zn : ns.length ≤ 8) (hc : ∀ x ∈ ns, clearB ps x = true) (h h' : Bool) : den_check_fit [.val (setE h' ns), .val (plsE h ps)] = .ok (.d .non) [.no, .no] := by
  have e := can_fit_ok g z gn zn h h'
  rw [List.all_eq_true.mpr hc] at e
  simp only [den_check_fit, f_check_fit, evl, evl2, evl3, evl4, prim, slotsE, e, nd0, if_true, Bool.not_true, Bool.false_eq_true, if_false]
end U
end

section
set_option Elab.async false
set_option linter.all false
set_option maxRecDepth 100000
namespace U
open PySem PySem.Spec PyProof.Rows L2
theorem isort_id {ns : NS} (un : Up ltN ns) : isort ltN ns = ns := by rw [isort_sof _ (up_nodup oN un), sof_id oN un]
theorem least_len (l : List NS) : (leastB l).length ≤ l.length := nodup_sub (up_nodup oS (sof_up oS _)) fun x hx => (least_mem.mp hx).1
def lowB (ns : NS) (ps : List Pl) : Bk := ns.map fun x => (x, leastB (toldB ps x true))
theorem lowest_ok {ps : List Pl} (g : ∀ p ∈ ps, GP p) (z : ps.length ≤ 12) {ns : NS} (un : Up ltN ns) (gn : GS ns) (zn : ns.length ≤ 8) (hc : ∀ x ∈ ns, clearB ps x = true) (h h' : Bool) : den_lowest_book [.val (setE h' ns), .val (plsE h ps)] = .ok (.d (bkE true (lowB ns ps))) [.no, .no] := by
  have ec := check_fit_ok g z gn zn hc h h'
  have gs : gSorted (setE h' ns) = some (.o (.l (ns.map nmD))) := by
    have := gSorted_nms h' gn (lim_big (by omega) : ns.length ≤ lim)
    rw [isort_id un] at this
    exact this
  have hl : compL c0_lowest_book (ns.map nmD) [.val (setE h' ns), .val (plsE h ps), .no] [] = .ok (ns.map fun x => rowE true (x, leastB (toldB ps x true))) [.val (setE h' ns), .val (plsE h ps), .no] :=
    compL_over ns (fun x hx => by
      have e1 := told_ok g (by omega) (gn x hx) h true
      have zt : (toldB ps x true).length ≤ 12 := Nat.le_trans told_len z
      have e2 : den_least_of [.val (.lst ((toldB ps x true).map setT))] = _ := least_of_ok (h := false) (l := toldB ps x true) (fun u hu => (told_good g hu).1) (by omega) (fun u hu => Nat.le_trans (told_good g hu).2 (by decide)) (by have := least_len (toldB ps x true); omega)
      have er : rowE true (x, leastB (toldB ps x true)) = .tup [nmD x, lotE true (leastB (toldB ps x true))] := rfl
      rw [er]
      simp only [c0_lowest_book, evl, evl2, evl3, evl4, prim, slotsE, if_true, e1, e2, nd0, toD_l, List.length_cons, List.length_nil, Nat.reduceAdd, limE]) (lim_big (by omega))
  have it : (D.lst (ns.map nmD)).items = some (ns.map nmD) := rfl
  have eb : bkE true (lowB ns ps) = .tup (ns.map fun x => rowE true (x, leastB (toldB ps x true))) := by
    unfold bkE lowB sq
    rw [if_pos rfl, List.map_map]; rfl
  rw [eb]
  show DR.of (f_lowest_book [.val (setE h' ns), .val (plsE h ps), .no]) [.val (setE h' ns), .val (plsE h ps)] = _
  rw [nE_lowest_book]
  simp only [evl, evl2, evl3, evl4, evl6, prim, slotsE, ec, nd0, if_true, gs, toD_l, it, hl]
end U
end

section
set_option Elab.async false
set_option linter.all false
set_option maxRecDepth 100000
namespace U
open PySem PySem.Spec PyProof.Rows L2
theorem set_of_nms {u : NS} (gu : GS u) (z : u.length ≤ 60) : den_set_of [.val (setT u)] = .ok (.d (setT (sof' ltN u))) [.no] := by
  have h1 := gSS_nms gu (lim_big (by omega)) (Nat.lt_of_le_of_lt (nodup_sub (dd_nodup u) fun x hx => dd_mem.mp hx) (by omega))
  simp only [den_set_of, f_set_of, evl, evl2, evl3, evl4, prim, slotsE, if_true, h1]
  rfl
theorem star_eq (f : T → Rs BR) (g : T → Rs (List D)) (τ : T) : sStar f g τ = (f τ).bind fun x τ1 => match x.at τ1 with
  | some (.tup xs) => (g τ1).bind fun ds τ2 => .ok (xs ++ ds) τ2
  | some (.lst xs) => (g τ1).bind fun ds τ2 => .ok (xs ++ ds) τ2
  | _ => .stuck := rfl
section
variable {rest bar : NS} {v1 v2 s4 s5 : Sl}
theorem c0_past {l : NS} (gl : GS l) (gb : GS bar) (z : l.length ≤ 60) : c0_past_all (setT l) [.val (setL rest), v1, v2, .val (setT bar), s4, s5, .no, .no] = .ok (if (!subB l bar) then some (setT l) else none) [.val (setL rest), v1, v2, .val (setT bar), s4, s5, .no, .no] := by
  have e := is_in_ok gl gb z
  generalize subB l bar = bb at e ⊢
  cases bb
  · simp only [c0_past_all, evl, evl2, evl3, evl4, prim, slotsE, if_true, e, nd0, Bool.not_false]
  · simp only [c0_past_all, evl, evl2, evl3, evl4, prim, slotsE, if_true, e, nd0, Bool.not_true, Bool.false_eq_true, if_false]
theorem c1_past {l : NS} {x : Nm} (gl : GS l) (gx : GN x) (gb : GS bar) (z : l.length ≤ 8) : c1_past_all (nmD x) [.val (setL rest), v1, v2, .val (setT bar), s4, s5, .val (setT l), .no] = .ok (if (!inB x bar) then some (setT (sof' ltN (l ++ [x]))) else none) [.val (setL rest), v1, v2, .val (setT bar), s4, s5, .val (setT l), .no] := by
  have gi : gIn true (nmD x) (setT bar) = some (.d (.bl (true != inB x bar))) := gIn_nm true true gx gb
  rw [Bool.true_bne] at gi
  have g2 : GS (l ++ [x]) := fun y hy => by
    rcases List.mem_append.mp hy with q | q
    · exact gl y q
    · rw [List.mem_singleton.mp q]; exact gx
  have e := set_of_nms g2 (by simp; omega)
  have es : setT (l ++ [x]) = .tup (l.map nmD ++ [nmD x]) := by unfold setT; rw [List.map_append]; rfl
  rw [es] at e
  have el : setT l = .tup (l.map nmD) := rfl
  have hl : ((l.map nmD ++ [nmD x]).length ≤ lim) = True := eq_true (by simp; exact lim_big (by omega))
  generalize inB x bar = bb at gi ⊢
  cases bb
  · rw [Bool.not_false] at gi
    rw [el]
    simp only [c1_past_all, evl, evl2, evl3, evl4, prim, slotsE, if_true, star_eq, gi, nd0, e, hl, Bool.not_false]
  · rw [Bool.not_true] at gi
    simp only [c1_past_all, evl, evl2, evl3, evl4, prim, slotsE, if_true, gi, Bool.not_true, Bool.false_eq_true, if_false]
end
end U
end

section
set_option Elab.async false
set_option linter.all false
set_option maxRecDepth 100000
namespace U
open PySem PySem.Spec PyProof.Rows L2
theorem compL_filtA {α : Type} {f : D → T → Rs (Option D)} {g h : α → D} {q : α → Bool} {τ : T} : ∀ (xs : List α) (acc : List D), (∀ x ∈ xs, f (g x) τ = .ok (if q x then some (h x) else none) τ) → acc.length + xs.length ≤ lim → compL f (xs.map g) τ acc = .ok (acc ++ (xs.filter q).map h) τ
  | [], acc, _, _ => by simp [compL]
  | x :: xs, acc, hf, hl => by
    rw [List.length_cons] at hl
    have hlt : acc.length < lim := by omega
    have h1 := hf x (List.mem_cons_self ..)
    show (match f (g x) τ with
      | .ok (some z) τ1 => if acc.length < lim then compL f (xs.map g) τ1 (acc ++ [z]) else .stuck
      | .ok none τ1 => compL f (xs.map g) τ1 acc
      | _ => .stuck) = _
    rw [h1, List.filter_cons]
    cases c : q x
    · show compL f (xs.map g) τ acc = _
      rw [compL_filtA xs acc (fun z hz => hf z (List.mem_cons_of_mem _ hz)) (by omega)]
      rfl
    · show (if acc.length < lim then compL f (xs.map g) τ (acc ++ [h x]) else .stuck) = _
      rw [if_pos hlt, compL_filtA xs (acc ++ [h x]) (fun z hz => hf z (List.mem_cons_of_mem _ hz)) (by rw [List.length_append, List.length_singleton]; omega)]
      simp
section
variable {rest bar : NS} {v1 v2 s4 s5 : Sl}
theorem e0_past {l : NS} (gr : GS rest) (zr : rest.length ≤ 8) (gl : GS l) (gb : GS bar) (z : l.length ≤ 8) (acc : List D) (ha : acc.length + 8 ≤ lim) : e0_past_all (setT l) [.val (setL rest), v1, v2, .val (setT bar), s4, s5, .no, .no] acc = .ok (acc ++ (if subB l bar then (rest.filter fun x => !inB x bar).map fun x => setT (sof' ltN (l ++ [x])) else [])) [.val (setL rest), v1, v2, .val (setT bar), s4, s5, .no, .no] := by
  have e := is_in_ok gl gb (by omega)
  have hc := compL_filtA (f := c1_past_all) (g := nmD) (h := fun x => setT (sof' ltN (l ++ [x]))) (q := fun x => !inB x bar) (τ := [.val (setL rest), v1, v2, .val (setT bar), s4, s5, .val (setT l), .no]) rest acc (fun x hx => c1_past gl (gr x hx) gb z) (by omega)
  have it : (setL rest).items = some (rest.map nmD) := rfl
  generalize subB l bar = bb at e ⊢
  cases bb
  · simp only [e0_past_all, evl, evl2, evl3, evl4, evl7, prim, slotsE, if_true, e, nd0, Bool.false_eq_true, if_false, List.append_nil]
  · simp only [e0_past_all, evl, evl2, evl3, evl4, evl7, prim, slotsE, if_true, e, nd0, it, hc]
end
end U
end

section
set_option Elab.async false
set_option linter.all false
set_option maxRecDepth 100000
namespace U
open PySem PySem.Spec PyProof.Rows L2
/-- lots as past_all keeps them -/
structure GH (rest : NS) (lots : List NS) : Prop where
  of : ∀ l ∈ lots, Up ltN l ∧ ∀ y ∈ l, y ∈ rest
  nd : lots.Nodup
theorem GH.few {rest : NS} {lots : List NS} (g : GH rest lots) (nr : rest.Nodup) (z : rest.length ≤ 3) : lots.length ≤ 8 :=
  Nat.le_trans (nodup_sub g.nd fun l hl => sub_sets nr (g.of l hl).1 (g.of l hl).2) (sets_few z)
theorem more_eq (rest : NS) (lots : List NS) (bar : NS) : (lots.flatMap fun l => if subB l bar then (rest.filter fun x => !inB x bar).map fun x => setT (sof' ltN (l ++ [x])) else []) = (moreL rest lots bar).map setT := by
  unfold moreL
  induction lots with
  | nil => rfl
  | cons l lots ih =>
    rw [List.flatMap_cons, ih, List.filter_cons]
    cases c : subB l bar
    · simp
    · simp [List.flatMap_cons]
theorem GH.step {rest : NS} {lots : List NS} (g : GH rest lots) (bar : NS) : GH rest (stepH rest lots bar) := ⟨stepH_good g.of, up_nodup oS (sof_up oS _)⟩
end U
end

section
set_option Elab.async false
set_option linter.all false
set_option maxRecDepth 100000
namespace U
open PySem PySem.Spec PyProof.Rows L2
theorem b0_past {rest bar : NS} {lots : List NS} {v1 s3 s4 s5 : Sl} (nr : rest.Nodup) (gr : GS rest) (zr : rest.length ≤ 3) (gb : GS bar) (g : GH rest lots) (f3 : s3.free = true) (f4 : s4.free = true) (f5 : s5.free = true) : ∃ s4' s5' : Sl, s4'.free = true ∧ s5'.free = true ∧
    b0_past_all (setT bar) [.val (setL rest), v1, .own (.l (lots.map setT)), s3, s4, s5, .no, .no] = .nx [.val (setL rest), v1, .own (.l ((stepH rest lots bar).map setT)), .val (setT bar), s4', s5', .no, .no] := by
  have zl := g.few nr zr
  have gl : ∀ l ∈ lots, GS l ∧ l.length ≤ 8 := fun l hl => ⟨fun x hx => gr x ((g.of l hl).2 x hx), Nat.le_trans (nodup_sub (up_nodup oN (g.of l hl).1) (g.of l hl).2) (by omega)⟩
  have h0 := compL_filt (f := c0_past_all) (g := setT) (h := setT) (q := fun l => !subB l bar) (τ := [.val (setL rest), v1, .val (.lst (lots.map setT)), .val (setT bar), s4, s5, .no, .no]) lots (fun l hl => c0_past (gl l hl).1 gb (Nat.le_trans (gl l hl).2 (by decide))) (lim_big (by omega))
  have h1 := compL2_acc (f := e0_past_all) (g := setT) (k := fun l => if subB l bar then (rest.filter fun x => !inB x bar).map fun x => setT (sof' ltN (l ++ [x])) else []) (τ := [.val (setL rest), v1, .val (.lst (lots.map setT)), .val (setT bar), .own (.l ((wideL lots bar).map setT)), s5, .no, .no]) 8 lots [] (fun l _ => by
    split
    · rw [List.length_map]; exact Nat.le_trans (List.length_filter_le ..) (by omega)
    · exact Nat.zero_le _) (fun l hl acc ha => e0_past gr (by omega) (gl l hl).1 gb (gl l hl).2 acc ha) (by rw [List.length_nil]; exact lim_big (by omega))
  rw [List.nil_append, more_eq] at h1
  have it : (D.lst (lots.map setT)).items = some (lots.map setT) := rfl
  have of := stepH_of (bar := bar) g.of
  have gm : GL (wideL lots bar ++ moreL rest lots bar) := fun l hl x hx => gr x ((of l hl).2 x hx)
  have zm : (wideL lots bar ++ moreL rest lots bar).length ≤ 200 := by
    rw [List.length_append]
    have a : (wideL lots bar).length ≤ lots.length := List.length_filter_le ..
    have b : (moreL rest lots bar).length ≤ 8 * lots.length := by
      have := more_eq rest lots bar
      have e : ((moreL rest lots bar).map setT).length = (moreL rest lots bar).length := List.length_map ..
      rw [← e, ← this, List.length_flatMap]
      clear h0 h1 this e a zl gl of gm it
      induction lots with
      | nil => simp
      | cons l lots ih =>
        have := ih ⟨fun x hx => g.of x (List.mem_cons_of_mem _ hx), (List.nodup_cons.mp g.nd).2⟩
        have hle : ((if subB l bar then (rest.filter fun x => !inB x bar).map fun x => setT (sof' ltN (l ++ [x])) else []) : List D).length ≤ 8 := by
          split
          · rw [List.length_map]; exact Nat.le_trans (List.length_filter_le ..) (by omega)
          · exact Nat.zero_le _
        simp only [List.map_cons, List.sum_cons, List.length_cons] at this ⊢
        omega
    omega
  have few : (dd (wideL lots bar ++ moreL rest lots bar)).length ≤ 8 := Nat.le_trans (nodup_sub (dd_nodup _) fun l hl => sub_sets nr (of l (dd_mem.mp hl)).1 (of l (dd_mem.mp hl)).2) (sets_few zr)
  have e1 := set_of_ok gm (lim_big (by omega)) (by omega)
  have zs : (sof' ltS (wideL lots bar ++ moreL rest lots bar)).length ≤ 8 := by unfold sof'; rw [(isort_perm _).length_eq]; exact few
  have e2 : den_least_of [.val (lotE true (sof' ltS (wideL lots bar ++ moreL rest lots bar)))] = _ := least_of_ok (h := true) (l := sof' ltS (wideL lots bar ++ moreL rest lots bar)) (fun l hl => gm l (sof_mem.mp hl)) (by omega) (fun l hl => Nat.le_trans (nodup_sub (up_nodup oN (of l (sof_mem.mp hl)).1) (of l (sof_mem.mp hl)).2) (by omega)) (by have := least_len (sof' ltS (wideL lots bar ++ moreL rest lots bar)); omega)
  have eg : gList (lotE true (leastB (sof' ltS (wideL lots bar ++ moreL rest lots bar)))) = some (.o (.l ((stepH rest lots bar).map setT))) := rfl
  have em : (wideL lots bar ++ moreL rest lots bar).map setT = (wideL lots bar).map setT ++ ((moreL rest lots bar).map setT ++ []) := by rw [List.append_nil, List.map_append]
  have hl : (((wideL lots bar).map setT ++ ((moreL rest lots bar).map setT ++ [])).length ≤ lim) = True := eq_true (by rw [← em, List.length_map]; exact lim_big (by omega))
  rw [em] at e1
  have h0 : compL c0_past_all (lots.map setT) [.val (setL rest), v1, .val (.lst (lots.map setT)), .val (setT bar), s4, s5, .no, .no] [] = .ok ((wideL lots bar).map setT) [.val (setL rest), v1, .val (.lst (lots.map setT)), .val (setT bar), s4, s5, .no, .no] := h0
  refine ⟨.own (.l ((wideL lots bar).map setT)), .own (.l ((moreL rest lots bar).map setT)), rfl, rfl, ?_⟩
  simp only [b0_past_all, evl, evl2, evl3, evl4, evl6, evl7, prim, slotsE, f3, f4, f5, if_true, it, h0, h1, star_eq, toD_l, hl, e1, e2, eg, nd0]
end U
end

section
set_option Elab.async false
set_option linter.all false
set_option maxRecDepth 100000
namespace U
open PySem PySem.Spec PyProof.Rows L2
theorem past_loop {rest : NS} {v1 : Sl} (nr : rest.Nodup) (gr : GS rest) (zr : rest.length ≤ 3) : ∀ (bars lots : List NS) (s3 s4 s5 : Sl), (∀ b ∈ bars, GS b) → GH rest lots → s3.free = true → s4.free = true → s5.free = true → ∃ t3 t4 t5 : Sl,
    forL b0_past_all (bars.map setT) [.val (setL rest), v1, .own (.l (lots.map setT)), s3, s4, s5, .no, .no] = .nx [.val (setL rest), v1, .own (.l ((bars.foldl (stepH rest) lots).map setT)), t3, t4, t5, .no, .no] ∧ GH rest (bars.foldl (stepH rest) lots)
  | [], lots, s3, s4, s5, _, g, _, _, _ => ⟨s3, s4, s5, rfl, g⟩
  | bar :: bars, lots, s3, s4, s5, hb, g, f3, f4, f5 => by
    obtain ⟨a4, a5, q4, q5, e⟩ := b0_past (v1 := v1) nr gr zr (hb bar (List.mem_cons_self ..)) g f3 f4 f5
    obtain ⟨t3, t4, t5, ih, gh⟩ := past_loop nr gr zr bars (stepH rest lots bar) (.val (setT bar)) a4 a5 (fun b h => hb b (List.mem_cons_of_mem _ h)) (g.step bar) rfl q4 q5
    exact ⟨t3, t4, t5, by rw [List.map_cons, forL_step e]; exact ih, gh⟩
theorem past_all_ok {rest : NS} (nr : rest.Nodup) (gr : GS rest) (zr : rest.length ≤ 3) {bars : List NS} (hb : ∀ b ∈ bars, GS b) : den_past_all [.val (setL rest), .val (.lst (bars.map setT))] = .ok (.d (lotE true (pastB rest bars))) [.no, .no] := by
  obtain ⟨t3, t4, t5, e, gh⟩ := past_loop (v1 := .val (.lst (bars.map setT))) nr gr zr bars [[]] .no .no .no hb ⟨fun l hl => by rw [List.mem_singleton.mp hl]; exact ⟨List.Pairwise.nil, fun y hy => by cases hy⟩, by simp⟩ rfl rfl rfl
  have zl := gh.few nr zr
  have e2 := set_of_ok (l := bars.foldl (stepH rest) [[]]) (fun l hl x hx => gr x ((gh.of l hl).2 x hx)) (lim_big (by omega)) (by rw [dd_id gh.nd]; omega)
  have l0 : (([] : List D).length ≤ lim) = True := eq_true (by decide)
  have l1 : (([D.tup []] : List D).length ≤ lim) = True := eq_true (by decide)
  have it : (D.lst (bars.map setT)).items = some (bars.map setT) := rfl
  have e : forL b0_past_all (bars.map setT) [.val (setL rest), .val (.lst (bars.map setT)), .own (.l [.tup []]), .no, .no, .no, .no, .no] = _ := e
  show DR.of (f_past_all [.val (setL rest), .val (.lst (bars.map setT)), .no, .no, .no, .no, .no, .no]) [.val (setL rest), .val (.lst (bars.map setT))] = _
  rw [nE_past_all]
  simp only [evl, evl2, evl3, evl4, evl6, prim, slotsE, l0, l1, if_true, it, e, toD_l, e2, nd0]
  rfl
end U
end

section
set_option Elab.async false
set_option linter.all false
set_option maxRecDepth 100000
namespace U
open PySem PySem.Spec PyProof.Rows L2
def highB (ns : NS) (ps : List Pl) : Bk := ns.map fun x => (x, pastB (restT' ns x) (toldB ps x false))
section
variable {ps : List Pl} {ns : NS}
theorem high_loop (g : ∀ p ∈ ps, GP p) (z : ps.length ≤ 12) (un : Up ltN ns) (gn : GS ns) (zn : ns.length ≤ 4) (h h' : Bool) : ∀ (c : NS) (acc : Bk) (s3 s4 : Sl), (∀ x ∈ c, x ∈ ns) → acc.length + c.length ≤ 60 → s3.free = true → s4.free = true → ∃ t3 t4 : Sl,
    forL b0_highest_book (c.map nmD) [.val (setE h' ns), .val (plsE h ps), .own (.l (acc.map (rowE true))), s3, s4, .no] = .nx [.val (setE h' ns), .val (plsE h ps), .own (.l ((acc ++ c.map fun x => (x, pastB (restT' ns x) (toldB ps x false))).map (rowE true))), t3, t4, .no]
  | [], acc, s3, s4, _, _, _, _ => ⟨s3, s4, by simp [forL]⟩
  | x :: c, acc, s3, s4, hx, hl, f3, f4 => by
    rw [List.length_cons] at hl
    have mx := hx x (List.mem_cons_self ..)
    have gs : gSorted (setE h' ns) = some (.o (.l (ns.map nmD))) := by
      have := gSorted_nms h' gn (lim_big (by omega) : ns.length ≤ lim)
      rw [isort_id un] at this
      exact this
    have hc : compL c0_highest_book (ns.map nmD) [.val (setE h' ns), .val (plsE h ps), .own (.l (acc.map (rowE true))), .val (nmD x), s4, .no] [] = .ok ((restT' ns x).map nmD) [.val (setE h' ns), .val (plsE h ps), .own (.l (acc.map (rowE true))), .val (nmD x), s4, .no] :=
      compL_filt ns (fun y hy => by
        have e1 := gEq_nms true (gn y hy) (gn x mx)
        rw [Bool.true_bne] at e1
        generalize decide (y = x) = b1 at e1 ⊢
        cases b1
        · rw [Bool.not_false] at e1
          simp only [c0_highest_book, evl, evl2, evl3, evl4, prim, slotsE, if_true, e1, Bool.not_false]
        · rw [Bool.not_true] at e1
          simp only [c0_highest_book, evl, evl2, evl3, evl4, prim, slotsE, if_true, e1, Bool.not_true, Bool.false_eq_true, if_false]) (lim_big (by omega))
    have zr : (restT' ns x).length < ns.length := by
      unfold restT'
      rw [List.length_filter_lt_length_iff_exists]
      exact ⟨x, mx, by simp⟩
    have e2 := told_ok g (by omega) (gn x mx) h false
    have e3 : den_past_all [.val (.lst ((restT' ns x).map nmD)), .val (.lst ((toldB ps x false).map setT))] = _ := past_all_ok (rest := restT' ns x) ((up_nodup oN un).filter _) (fun y hy => gn y (List.mem_filter.mp hy).1) (by omega) (bars := toldB ps x false) (fun b hb => (told_good g hb).1)
    have it : (D.lst (ns.map nmD)).items = some (ns.map nmD) := rfl
    have hll : ((acc.map (rowE true)).length < lim) = True := eq_true (by rw [List.length_map]; exact l60' (by omega))
    have em : (acc ++ [(x, pastB (restT' ns x) (toldB ps x false))]).map (rowE true) = acc.map (rowE true) ++ [.tup [nmD x, lotE true (pastB (restT' ns x) (toldB ps x false))]] := by rw [List.map_append]; rfl
    obtain ⟨t3, t4, ih⟩ := high_loop g z un gn zn h h' c (acc ++ [(x, pastB (restT' ns x) (toldB ps x false))]) (.val (nmD x)) (.val (.lst ((restT' ns x).map nmD))) (fun y hy => hx y (List.mem_cons_of_mem _ hy)) (by rw [List.length_append, List.length_singleton]; omega) rfl rfl
    refine ⟨t3, t4, ?_⟩
    rw [List.map_cons, forL_step (τ1 := [.val (setE h' ns), .val (plsE h ps), .own (.l ((acc ++ [(x, pastB (restT' ns x) (toldB ps x false))]).map (rowE true))), .val (nmD x), .val (.lst ((restT' ns x).map nmD)), .no]), ih]
    · simp
    · rw [em]
      simp only [b0_highest_book, evl, evl2, evl3, evl4, evl6, prim, slotsE, f3, f4, if_true, gs, toD_l, it, hc, e2, e3, nd0, List.length_cons, List.length_nil, Nat.reduceAdd, limE, hll]
end
end U
end

section
set_option Elab.async false
set_option linter.all false
set_option maxRecDepth 100000
namespace U
open PySem PySem.Spec PyProof.Rows L2
theorem highest_ok {ps : List Pl} {ns : NS} (g : ∀ p ∈ ps, GP p) (z : ps.length ≤ 12) (un : Up ltN ns) (gn : GS ns) (zn : ns.length ≤ 4) (hc : ∀ x ∈ ns, clearB ps x = true) (h h' : Bool) : den_highest_book [.val (setE h' ns), .val (plsE h ps)] = .ok (.d (bkE true (highB ns ps))) [.no, .no] := by
  have ec := check_fit_ok g z gn (by omega) hc h h'
  have gs : gSorted (setE h' ns) = some (.o (.l (ns.map nmD))) := by
    have := gSorted_nms h' gn (lim_big (by omega) : ns.length ≤ lim)
    rw [isort_id un] at this
    exact this
  obtain ⟨t3, t4, e⟩ := high_loop g z un gn zn h h' ns [] .no .no (fun x hx => hx) (by simp; omega) rfl rfl
  rw [List.nil_append] at e
  have e : forL b0_highest_book (ns.map nmD) [.val (setE h' ns), .val (plsE h ps), .own (.l []), .no, .no, .no] = .nx [.val (setE h' ns), .val (plsE h ps), .own (.l ((highB ns ps).map (rowE true))), t3, t4, .no] := e
  have l0 : (([] : List D).length ≤ lim) = True := eq_true (by decide)
  have it : (D.lst (ns.map nmD)).items = some (ns.map nmD) := rfl
  have gt : gTuple (.lst ((highB ns ps).map (rowE true))) = some (.d (.tup ((highB ns ps).map (rowE true)))) := rfl
  have eb : bkE true (highB ns ps) = .tup ((highB ns ps).map (rowE true)) := rfl
  rw [eb]
  show DR.of (f_highest_book [.val (setE h' ns), .val (plsE h ps), .no, .no, .no, .no]) [.val (setE h' ns), .val (plsE h ps)] = _
  rw [nE_highest_book]
  simp only [evl, evl2, evl3, evl4, evl6, prim, slotsE, l0, ec, nd0, if_true, gs, toD_l, it, e, gt]
end U
end

section
set_option Elab.async false
set_option linter.all false
set_option maxRecDepth 100000
namespace U
open PySem PySem.Spec PyProof.Rows L2
theorem lots_eqb : ∀ a b : List NS, D.eqbL (a.map setT) (b.map setT) = decide (a = b)
  | [], [] => by simp [D.eqbL]
  | [], b :: bs => by simp [D.eqbL]
  | a :: as, [] => by simp [D.eqbL]
  | a :: as, b :: bs => by
    simp only [List.map_cons, D.eqbL, set_eqb, lots_eqb as bs]
    by_cases h : a = b <;> by_cases h' : as = bs <;> simp [h, h']
theorem lots_lt : ∀ a b : List NS, D.ltL (a.map setT) (b.map setT) = decide (a < b)
  | [], [] => by simp [D.ltL]
  | [], b :: bs => by simp [D.ltL]
  | a :: as, [] => by simp [D.ltL]
  | a :: as, b :: bs => by
    simp only [List.map_cons, D.ltL, set_eqb, lots_lt as bs, set_lt, ltS]
    by_cases h : a = b
    · subst h; simp [List.cons_lt_cons_iff]
    · simp [h, List.cons_lt_cons_iff]
theorem lots_like : ∀ a b : List NS, D.likeL (a.map setT) (b.map setT) = true
  | [], b => by simp [D.likeL]
  | a :: as, [] => by simp [D.likeL]
  | a :: as, b :: bs => by simp only [List.map_cons, D.likeL, set_like, lots_like as bs, Bool.and_self]
section
variable (S : List NS)
def encC (n : List NS) : D := .tup [.int (cntB S n : Int), lotE true n]
def ltC (a b : List NS) : Bool := if cntB S a = cntB S b then decide (a < b) else decide (cntB S a < cntB S b)
theorem lotE_t (n : List NS) : lotE true n = .tup (n.map setT) := rfl
theorem encC_lt (a b : List NS) : (encC S a).lt (encC S b) = ltC S a b := by
  simp only [encC, lotE_t, D.lt, D.ltL, D.eqb, lots_eqb, lots_lt]
  unfold ltC
  by_cases h : cntB S a = cntB S b
  · rw [if_pos h]
    have h1 : ((cntB S a : Int) == (cntB S b : Int)) = true := by simp [h]
    rw [h1, if_pos rfl]
    by_cases e : a = b
    · subst e; simp [List.lt_irrefl]
    · simp [e]
  · rw [if_neg h]
    have h1 : ((cntB S a : Int) == (cntB S b : Int)) = false := by simp; omega
    rw [h1, if_neg (by simp)]
    simp
theorem oC : Ord (ltC S) := ⟨fun a => by simp [ltC, List.lt_irrefl], fun a b c h1 h2 => by
    unfold ltC at *
    by_cases e1 : cntB S a = cntB S b <;> by_cases e2 : cntB S b = cntB S c
    · rw [if_pos e1, decide_eq_true_eq] at h1; rw [if_pos e2, decide_eq_true_eq] at h2; rw [if_pos (e1.trans e2), decide_eq_true_eq]; exact List.lt_trans h1 h2
    · rw [if_neg e2, decide_eq_true_eq] at h2; rw [if_neg (by omega), decide_eq_true_eq]; omega
    · rw [if_neg e1, decide_eq_true_eq] at h1; rw [if_neg (by omega), decide_eq_true_eq]; omega
    · rw [if_neg e1, decide_eq_true_eq] at h1; rw [if_neg e2, decide_eq_true_eq] at h2; rw [if_neg (by omega), decide_eq_true_eq]; omega,
  fun a b => by
    unfold ltC
    by_cases e : cntB S a = cntB S b
    · rw [if_pos e, if_pos e.symm, decide_eq_true_eq, decide_eq_true_eq]
      rcases Classical.em (a < b) with h | h
      · exact .inl h
      · rcases Classical.em (b < a) with h' | h'
        · exact .inr (.inr h')
        · exact .inr (.inl (List.le_antisymm (List.not_lt.mp h') (List.not_lt.mp h)))
    · rw [if_neg e, if_neg (fun z => e z.symm), decide_eq_true_eq, decide_eq_true_eq]
      rcases Nat.lt_or_ge (cntB S a) (cntB S b) with z | z
      · exact .inl z
      · exact .inr (.inr (by omega))⟩
theorem ltC_of {a b : List NS} (h : cntB S a < cntB S b) : ltC S a b = true := by
  unfold ltC
  rw [if_neg (by omega), decide_eq_true_eq]; exact h
theorem sort_cnt {l : List (List NS)} (gl : ∀ n ∈ l, GL n) (hl : l.length ≤ lim) : CanSort (l.map (encC S)) where
  len := by rw [List.length_map]; exact hl
  ok := fun d hd => by
    obtain ⟨x, hx, rfl⟩ := List.mem_map.mp hd
    have h1 : (lotE true x).ok 59 = true := lot_ok (gl x hx) true 57
    simp only [encC, D.ok, D.okL, h1, Bool.and_self]
  non := fun d hd => by obtain ⟨x, hx, rfl⟩ := List.mem_map.mp hd; rfl
  like := fun d hd e he => by
    obtain ⟨x, _, rfl⟩ := List.mem_map.mp hd
    obtain ⟨y, _, rfl⟩ := List.mem_map.mp he
    simp only [encC, lotE_t, D.like, D.likeL, lots_like, Bool.and_self]
theorem gSorted_cnt {l : List (List NS)} (gl : ∀ n ∈ l, GL n) (hl : l.length ≤ lim) : gSorted (.lst (l.map (encC S))) = some (.o (.l ((isort (ltC S) l).map (encC S)))) := by
  have := sq_gSorted false (l.map (encC S))
  rw [canSort_iff (sort_cnt S gl hl), sortD_map (encC_lt S)] at this
  exact this
end
end U
end

section
set_option Elab.async false
set_option linter.all false
set_option maxRecDepth 100000
namespace U
open PySem PySem.Spec PyProof.Rows L2
theorem compL_head {α : Type} {f : D → T → Rs (Option D)} {g h : α → D} {τ τ' : T} {x : α} {xs : List α} (h0 : f (g x) τ = .ok (some (h x)) τ') (hf : ∀ y ∈ xs, f (g y) τ' = .ok (some (h y)) τ') (hl : xs.length ≤ 1000) : compL f ((x :: xs).map g) τ [] = .ok ((x :: xs).map h) τ' := by
  have key : ∀ (xs : List α) (acc : List D), (∀ x ∈ xs, f (g x) τ' = .ok (some (h x)) τ') → acc.length + xs.length ≤ lim → compL f (xs.map g) τ' acc = .ok (acc ++ xs.map h) τ' := fun xs => by
    induction xs with
    | nil => intro acc _ _; simp [compL]
    | cons x xs ih =>
      intro acc hf hl
      rw [List.length_cons] at hl
      have hlt : acc.length < lim := by omega
      show (match f (g x) τ' with
        | .ok (some z) τ1 => if acc.length < lim then compL f (xs.map g) τ1 (acc ++ [z]) else .stuck
        | .ok none τ1 => compL f (xs.map g) τ1 acc
        | _ => .stuck) = _
      rw [hf x (List.mem_cons_self ..)]
      show (if acc.length < lim then compL f (xs.map g) τ' (acc ++ [h x]) else .stuck) = _
      rw [if_pos hlt, ih (acc ++ [h x]) (fun z hz => hf z (List.mem_cons_of_mem _ hz)) (by rw [List.length_append, List.length_singleton]; omega)]
      simp
  show (match f (g x) τ with
    | .ok (some z) τ1 => if ([] : List D).length < lim then compL f (xs.map g) τ1 ([] ++ [z]) else .stuck
    | .ok none τ1 => compL f (xs.map g) τ1 []
    | _ => .stuck) = _
  rw [h0]
  show (if ([] : List D).length < lim then compL f (xs.map g) τ' [h x] else .stuck) = _
  rw [if_pos (by decide), key xs [h x] hf (by rw [List.length_singleton]; exact Nat.le_trans (Nat.add_le_add_left hl 1) (by decide))]
  rfl
section
variable {v0 v1 v2 s3 v4 s5 s7 : Sl}
theorem c1_best {S : List NS} (gS : GL S) (zS : S.length ≤ 8) {n : List NS} (gn : GL n) (z1 : n.length ≤ 60) (z2 : ∀ s ∈ n, s.length ≤ 60) {six : Sl} : compL c1__law_best (S.map setT) [v0, v1, v2, s3, v4, s5, six, s7, .val (lotE true n), .no] [] = .ok ((S.filter (ableB n)).map setT) [v0, v1, v2, s3, v4, s5, six, s7, .val (lotE true n), .no] :=
  compL_filt S (fun s hs => by
    have e : den__law_able [.val (lotE true n), .val (setT s)] = .ok (.d (.bl (ableB n s))) [.no, .no] := able_ok true true gn (gS s hs) z1 z2
    generalize ableB n s = b at e ⊢
    cases b <;> simp only [c1__law_best, evl, evl2, evl3, evl4, prim, slotsE, if_true, e, nd0, Bool.false_eq_true, if_false]) (lim_big (by omega))
theorem c2_best {S : List NS} (gS : GL S) (zS : S.length ≤ 8) {n : List NS} (gn : GL n) (z1 : n.length ≤ 60) (z2 : ∀ s ∈ n, s.length ≤ 60) : c2__law_best (lotE true n) [v0, v1, v2, s3, v4, s5, .val (.lst (S.map setT)), s7, .no, .no] = .ok (some (encC S n)) [v0, v1, v2, s3, v4, s5, .val (.lst (S.map setT)), s7, .no, .no] := by
  have hc := c1_best (v0 := v0) (v1 := v1) (v2 := v2) (s3 := s3) (v4 := v4) (s5 := s5) (s7 := s7) (six := .val (.lst (S.map setT))) gS zS gn z1 z2
  have it : (D.lst (S.map setT)).items = some (S.map setT) := rfl
  have gl : gLen (.lst ((S.filter (ableB n)).map setT)) = some (.d (.int (cntB S n : Int))) := by
    show some (PR.d (D.int (((S.filter (ableB n)).map setT).length : Nat))) = _
    rw [List.length_map]; rfl
  simp only [c2__law_best, encC, evl, evl2, evl3, evl4, evl6, prim, slotsE, if_true, it, hc, toD_l, gl, List.length_cons, List.length_nil, Nat.reduceAdd, limE]
theorem c2_best0 {S : List NS} (gS : GL S) (zS : S.length ≤ 8) {n : List NS} (gn : GL n) (z1 : n.length ≤ 60) (z2 : ∀ s ∈ n, s.length ≤ 60) : c2__law_best (lotE true n) [v0, v1, v2, s3, v4, s5, .own (.l (S.map setT)), s7, .no, .no] = .ok (some (encC S n)) [v0, v1, v2, s3, v4, s5, .val (.lst (S.map setT)), s7, .no, .no] := by
  have hc := c1_best (v0 := v0) (v1 := v1) (v2 := v2) (s3 := s3) (v4 := v4) (s5 := s5) (s7 := s7) (six := .val (.lst (S.map setT))) gS zS gn z1 z2
  have it : (D.lst (S.map setT)).items = some (S.map setT) := rfl
  have gl : gLen (.lst ((S.filter (ableB n)).map setT)) = some (.d (.int (cntB S n : Int))) := by
    show some (PR.d (D.int (((S.filter (ableB n)).map setT).length : Nat))) = _
    rw [List.length_map]; rfl
  simp only [c2__law_best, encC, evl, evl2, evl3, evl4, evl6, prim, slotsE, if_true, it, hc, toD_l, gl, List.length_cons, List.length_nil, Nat.reduceAdd, limE]
end
def bestN (ns : NS) (ps : List Pl) (low : Bool) (x : Nm) : List NS := if low then leastB (toldB ps x true) else pastB (restT' ns x) (toldB ps x false)
theorem at_last {α : Type} (r : List α) (m : α) : atI (r ++ [m]) (-1) = some m := by
  have e : ixN (r ++ [m]).length (-1) = some r.length := by
    unfold ixN
    have h : -((r ++ [m]).length : Int) ≤ -1 := by rw [List.length_append, List.length_singleton]; omega
    have e : (-1 + ((r ++ [m]).length : Int)).toNat = r.length := by rw [List.length_append, List.length_singleton]; omega
    rw [if_neg (by decide), if_pos h, e]
  unfold atI
  rw [e]
  simp
end U
end

section
set_option Elab.async false
set_option linter.all false
set_option maxRecDepth 100000
namespace U
open PySem PySem.Spec PyProof.Rows L2
section
variable {ns : NS} {ps : List Pl}
theorem rest_lt {t : Nm} (h : t ∈ ns) : (restT' ns t).length < ns.length := by
  unfold restT'
  rw [List.length_filter_lt_length_iff_exists]
  exact ⟨t, h, by simp⟩
theorem fit_go {rest : NS} (gr : GS rest) (zr : rest.length ≤ 3) {t : Nm} {n : List NS} (h : n ∈ fitL rest ps t) : GO 30 n := by
  have hz := sets_few zr
  exact (all_good _ 0 [[]] (fun t' ht => ⟨(sets_gs gr ht).1, Nat.le_trans (sets_gs gr ht).2 (by omega)⟩) (fun o ho => by rw [List.mem_singleton.mp ho]; exact GO.nil) n (List.mem_filter.mp h).1).mono (by omega)
theorem fit_len {rest : NS} (zr : rest.length ≤ 3) (t : Nm) : (fitL rest ps t).length ≤ 256 := by
  refine Nat.le_trans (List.length_filter_le ..) (Nat.le_trans (all_len _ _) ?_)
  have : 2 ^ (setsB rest).length ≤ 2 ^ 8 := Nat.pow_le_pow_right (by decide) (sets_few zr)
  simp; omega
theorem b0_best (un : Up ltN ns) (gn : GS ns) (zn : ns.length ≤ 4) (hp : ∀ p ∈ ps, PlOk ns p) (z : ps.length ≤ 12) (hcl : ∀ x ∈ ns, clearB ps x = true) (low : Bool) {x : Nm} (hx : x ∈ ns) {acc : Bk} (za : acc.length ≤ 50) {s4 s5 s6 s7 : Sl} (f4 : s4.free = true) (f5 : s5.free = true) (f6 : s6.free = true) (f7 : s7.free = true) : ∃ t5 t6 t7 : Sl, t5.free = true ∧ t6.free = true ∧ t7.free = true ∧
    b0__law_best (nmD x) [.val (setT ns), .val (plsE true ps), .val (.bl low), .own (.l (acc.map (rowE true))), s4, s5, s6, s7, .no, .no] = .nx [.val (setT ns), .val (plsE true ps), .val (.bl low), .own (.l ((acc ++ [(x, bestN ns ps low x)]).map (rowE true))), .val (nmD x), t5, t6, t7, .no, .no] := by
  have gp : ∀ p ∈ ps, GP p := fun p h => (hp p h).g
  have zr : (restT' ns x).length ≤ 3 := by have := rest_lt hx; omega
  have nr : (restT' ns x).Nodup := (up_nodup oN un).filter _
  have gr : GS (restT' ns x) := fun y hy => gn y (List.mem_filter.mp hy).1
  have ef : den__law_fit_needs [.val (setT ns), .val (plsE true ps), .val (nmD x)] = .ok (.o (.l ((fitL (restT' ns x) ps x).map (lotE true)))) [.no, .no, .no] := fit_needs_ok gp z (gn x hx) gn (by omega) zr
  have hc0 : compL c0__law_best (ns.map nmD) [.val (setT ns), .val (plsE true ps), .val (.bl low), .own (.l (acc.map (rowE true))), .val (nmD x), .own (.l ((fitL (restT' ns x) ps x).map (lotE true))), s6, s7, .no, .no] [] = .ok ((restT' ns x).map nmD) [.val (setT ns), .val (plsE true ps), .val (.bl low), .own (.l (acc.map (rowE true))), .val (nmD x), .own (.l ((fitL (restT' ns x) ps x).map (lotE true))), s6, s7, .no, .no] :=
    compL_filt ns (fun y hy => by
      have e1 := gEq_nms true (gn y hy) (gn x hx)
      rw [Bool.true_bne] at e1
      generalize decide (y = x) = b1 at e1 ⊢
      cases b1
      · rw [Bool.not_false] at e1
        simp only [c0__law_best, evl, evl2, evl3, evl4, prim, slotsE, if_true, e1, Bool.not_false]
      · rw [Bool.not_true] at e1
        simp only [c0__law_best, evl, evl2, evl3, evl4, prim, slotsE, if_true, e1, Bool.not_true, Bool.false_eq_true, if_false]) (lim_big (by omega))
  have es : den__law_sets [.val (.lst ((restT' ns x).map nmD))] = .ok (.o (.l ((setsB (restT' ns x)).map setT))) [.no] := sets_ok false gr (by omega)
  have zS := sets_few zr
  have gS : GL (setsB (restT' ns x)) := fun s hs => (sets_gs gr hs).1
  have hpx : ∀ p ∈ ps, p.nm = x → p.up ∈ setsB (restT' ns x) := fun p h e => by have := (hp p h).up; rw [e] at this; exact this
  have hux : ∀ p ∈ ps, p.nm = x → Up ltN p.up := fun p h _ => (gp p h).us
  have hlow : leastB (toldB ps x true) ∈ fitL (restT' ns x) ps x := low_fits nr hpx hux (hcl x hx)
  have go : ∀ n ∈ fitL (restT' ns x) ps x, GO 30 n := fun n h => fit_go gr zr h
  have fl := fit_len (ps := ps) zr x
  have hsort := gSorted_cnt (setsB (restT' ns x)) (l := fitL (restT' ns x) ps x) (fun n h => (go n h).g) (lim_big (by omega))
  have hix : gIx (.lst ((isort (ltC (setsB (restT' ns x))) (fitL (restT' ns x) ps x)).map (encC (setsB (restT' ns x))))) (.int (if low then 0 else -1)) = some (.d (encC (setsB (restT' ns x)) (bestN ns ps low x))) := by
    cases low
    · obtain ⟨r, e⟩ := isort_last (oC (setsB (restT' ns x))) (fitL (restT' ns x) ps x) (high_fits nr hpx (hcl x hx)) fun n hn ne => ltC_of _ (high_most nr hpx (hcl x hx) hn ne)
      rw [e, List.map_append]
      show (atI _ (-1)).map PR.d = _
      rw [List.map_cons, List.map_nil, at_last]; rfl
    · obtain ⟨r, e⟩ := isort_head (oC (setsB (restT' ns x))) (fitL (restT' ns x) ps x) hlow fun n hn ne => ltC_of _ (low_least nr hpx hux (hcl x hx) hn ne)
      rw [e, List.map_cons]
      show (atI _ ((0 : Nat) : Int)).map PR.d = _
      rw [at_nat (by rw [List.length_cons]; omega)]; rfl
  have hi1 : gIx (encC (setsB (restT' ns x)) (bestN ns ps low x)) (.int 1) = some (.d (lotE true (bestN ns ps low x))) := rfl
  have em : (acc ++ [(x, bestN ns ps low x)]).map (rowE true) = acc.map (rowE true) ++ [.tup [nmD x, lotE true (bestN ns ps low x)]] := by rw [List.map_append]; rfl
  have hll : ((acc.map (rowE true)).length < lim) = True := eq_true (by rw [List.length_map]; exact l60' (by omega))
  rw [em]
  generalize bestN ns ps low x = bst at hix hi1
  generalize restT' ns x = rst at *
  generalize hSg : setsB rst = S at *
  generalize hF : fitL rst ps x = F at *
  obtain ⟨n0, F', rfl⟩ : ∃ n0 F', F = n0 :: F' := by
    cases F with
    | nil => cases hlow
    | cons a b => exact ⟨a, b, rfl⟩
  have hc2 : compL c2__law_best ((n0 :: F').map (lotE true)) [.val (setT ns), .val (plsE true ps), .val (.bl low), .own (.l (acc.map (rowE true))), .val (nmD x), .val (.lst ((n0 :: F').map (lotE true))), .own (.l (S.map setT)), s7, .no, .no] [] = .ok ((n0 :: F').map (encC S)) [.val (setT ns), .val (plsE true ps), .val (.bl low), .own (.l (acc.map (rowE true))), .val (nmD x), .val (.lst ((n0 :: F').map (lotE true))), .val (.lst (S.map setT)), s7, .no, .no] :=
    compL_head (c2_best0 gS zS (go n0 (List.mem_cons_self ..)).g (Nat.le_trans (go n0 (List.mem_cons_self ..)).z (by decide)) (fun s hs => Nat.le_trans ((go n0 (List.mem_cons_self ..)).s s hs) (by decide)))
      (fun n hn => c2_best gS zS (go n (List.mem_cons_of_mem _ hn)).g (Nat.le_trans (go n (List.mem_cons_of_mem _ hn)).z (by decide)) (fun s hs => Nat.le_trans ((go n (List.mem_cons_of_mem _ hn)).s s hs) (by decide))) (by rw [List.length_cons] at fl; omega)
  generalize n0 :: F' = F at *
  have it : (setT ns).items = some (ns.map nmD) := rfl
  have it2 : (D.lst (F.map (lotE true))).items = some (F.map (lotE true)) := rfl
  refine ⟨.val (.lst (F.map (lotE true))), .val (.lst (S.map setT)), .own (.l ((isort (ltC S) F).map (encC S))), rfl, rfl, rfl, ?_⟩
  cases low
  · have hix : gIx (.lst ((isort (ltC S) F).map (encC S))) (.int (-1)) = some (.d (encC S bst)) := hix
    simp only [b0__law_best, evl, evl2, evl3, evl4, evl6, prim, slotsE, f4, f5, f6, f7, if_true, ef, nd0, it, hc0, toD_l, es, it2, hc2, hsort, hix, hi1, List.length_cons, List.length_nil, Nat.reduceAdd, limE, hll, Bool.false_eq_true, if_false]
  · have hix : gIx (.lst ((isort (ltC S) F).map (encC S))) (.int 0) = some (.d (encC S bst)) := hix
    simp only [b0__law_best, evl, evl2, evl3, evl4, evl6, prim, slotsE, f4, f5, f6, f7, if_true, ef, nd0, it, hc0, toD_l, es, it2, hc2, hsort, hix, hi1, List.length_cons, List.length_nil, Nat.reduceAdd, limE, hll]
theorem best_loop (un : Up ltN ns) (gn : GS ns) (zn : ns.length ≤ 4) (hp : ∀ p ∈ ps, PlOk ns p) (z : ps.length ≤ 12) (hcl : ∀ x ∈ ns, clearB ps x = true) (low : Bool) : ∀ (c : NS) (acc : Bk) (s4 s5 s6 s7 : Sl), (∀ x ∈ c, x ∈ ns) → acc.length + c.length ≤ 50 → s4.free = true → s5.free = true → s6.free = true → s7.free = true → ∃ t4 t5 t6 t7 : Sl,
    forL b0__law_best (c.map nmD) [.val (setT ns), .val (plsE true ps), .val (.bl low), .own (.l (acc.map (rowE true))), s4, s5, s6, s7, .no, .no] = .nx [.val (setT ns), .val (plsE true ps), .val (.bl low), .own (.l ((acc ++ c.map fun x => (x, bestN ns ps low x)).map (rowE true))), t4, t5, t6, t7, .no, .no]
  | [], acc, s4, s5, s6, s7, _, _, _, _, _, _ => ⟨s4, s5, s6, s7, by simp [forL]⟩
  | x :: c, acc, s4, s5, s6, s7, hx, hl, f4, f5, f6, f7 => by
    rw [List.length_cons] at hl
    obtain ⟨t5, t6, t7, g5, g6, g7, e⟩ := b0_best un gn zn hp z hcl low (hx x (List.mem_cons_self ..)) (acc := acc) (by omega) f4 f5 f6 f7
    obtain ⟨u4, u5, u6, u7, ih⟩ := best_loop un gn zn hp z hcl low c (acc ++ [(x, bestN ns ps low x)]) (.val (nmD x)) t5 t6 t7 (fun y hy => hx y (List.mem_cons_of_mem _ hy)) (by rw [List.length_append, List.length_singleton]; omega) rfl g5 g6 g7
    refine ⟨u4, u5, u6, u7, ?_⟩
    rw [List.map_cons, forL_step e, ih]
    simp
theorem best_ok (un : Up ltN ns) (gn : GS ns) (zn : ns.length ≤ 4) (hp : ∀ p ∈ ps, PlOk ns p) (z : ps.length ≤ 12) (hcl : ∀ x ∈ ns, clearB ps x = true) (low : Bool) : den__law_best [.val (setT ns), .val (plsE true ps), .val (.bl low)] = .ok (.d (bkE true (ns.map fun x => (x, bestN ns ps low x)))) [.no, .no, .no] := by
  obtain ⟨t4, t5, t6, t7, e⟩ := best_loop un gn zn hp z hcl low ns [] .no .no .no .no (fun x hx => hx) (by simp; omega) rfl rfl rfl rfl
  rw [List.nil_append] at e
  have e : forL b0__law_best (ns.map nmD) [.val (setT ns), .val (plsE true ps), .val (.bl low), .own (.l []), .no, .no, .no, .no, .no, .no] = _ := e
  have l0 : (([] : List D).length ≤ lim) = True := eq_true (by decide)
  have it : (setT ns).items = some (ns.map nmD) := rfl
  have gt : gTuple (.lst ((ns.map fun x => (x, bestN ns ps low x)).map (rowE true))) = some (.d (.tup ((ns.map fun x => (x, bestN ns ps low x)).map (rowE true)))) := rfl
  have eb : bkE true (ns.map fun x => (x, bestN ns ps low x)) = .tup ((ns.map fun x => (x, bestN ns ps low x)).map (rowE true)) := rfl
  rw [eb]
  show DR.of (f__law_best [.val (setT ns), .val (plsE true ps), .val (.bl low), .no, .no, .no, .no, .no, .no, .no]) [.val (setT ns), .val (plsE true ps), .val (.bl low)] = _
  rw [nE__law_best]
  simp only [evl, evl2, evl3, evl4, evl6, prim, slotsE, l0, nd0, if_true, toD_l, it, e, gt]
end
end U
end

section
set_option Elab.async false
set_option linter.all false
set_option maxRecDepth 100000
namespace U
open PySem PySem.Spec PyProof.Rows L2
theorem gEq_refl {d : D} (h : okS 60 d = true) : gEq false d d = some (.d (.bl true)) := by
  unfold gEq
  rw [okS_ok 60 _ h, eqb_self 60 _ h]; rfl
theorem mul_three (x y : D) : gMul (.lst [x, y]) (.int 3) = some (.o (.l [x, y, x, y, x, y])) := rfl
theorem six_okS {x y : D} (hx : okS 10 x = true) (hy : okS 10 y = true) : okS 11 (.lst [x, y, x, y, x, y]) = true := by
  have := okS_sq false [x, y, x, y, x, y] 10
  have e : sq false [x, y, x, y, x, y] = .lst [x, y, x, y, x, y] := rfl
  rw [e] at this
  rw [this]
  simp only [List.all_cons, List.all_nil, hx, hy, Bool.and_self, Bool.and_true]
  exact decide_eq_true (show 6 < lim by decide)
theorem case_ok {ns : NS} {ps : List Pl} (un : Up ltN ns) (gn : GS ns) (zn : ns.length ≤ 4) (hp : ∀ p ∈ ps, PlOk ns p) (z : ps.length ≤ 12) : den__law_case_right [.val (setT ns), .val (plsE true ps)] = .ok (.d (.bl true)) [.no, .no] := by
  have gp : ∀ p ∈ ps, GP p := fun p h => (hp p h).g
  have l0 : (([] : List D).length ≤ lim) = True := eq_true (by decide)
  have hc : compL c0__law_case_right (ns.map nmD) [.val (setT ns), .val (plsE true ps), .no, .no, .no, .no] [] = .ok (ns.map fun x => .bl (clearB ps x)) [.val (setT ns), .val (plsE true ps), .no, .no, .no, .no] :=
    compL_over ns (fun x hx => by
      have zr : (restT' ns x).length ≤ 3 := by have := rest_lt hx; omega
      have nr : (restT' ns x).Nodup := (up_nodup oN un).filter _
      have ef := fit_needs_ok gp z (gn x hx) gn (by omega) zr
      have fe := fit_exists nr (ps := ps) (t := x) (fun p h e => by have := (hp p h).up; rw [e] at this; exact this) (fun p h _ => (gp p h).us)
      have gr : GS (restT' ns x) := fun y hy => gn y (List.mem_filter.mp hy).1
      have ok2 : D.okL (((allN (setsB (restT' ns x))).filter (fitsN ps x)).map (lotE true)) 59 = true := okL_of fun d hd => by
        obtain ⟨o, ho, rfl⟩ := List.mem_map.mp hd
        exact lot_ok (fit_go (ps := ps) (t := x) gr zr ho).g true 57
      have g2 : gEq true (.lst (((allN (setsB (restT' ns x))).filter (fitsN ps x)).map (lotE true))) (.lst []) = some (.d (.bl (clearB ps x))) := by
        rw [gEq_nil true ok2, List.isEmpty_map, Bool.true_bne, fe]
      simp only [c0__law_case_right, evl, evl2, evl3, evl4, prim, slotsE, if_true, ef, nd0, l0, toD_l, g2]) (lim_big (by omega))
  have it : (setT ns).items = some (ns.map nmD) := rfl
  have ha := gAll_map (clearB ps) ns
  show DR.of (f__law_case_right [.val (setT ns), .val (plsE true ps), .no, .no, .no, .no]) [.val (setT ns), .val (plsE true ps)] = _
  rw [nE__law_case_right]
  cases q : ns.all (clearB ps) with
  | false =>
    rw [q] at ha
    simp only [evl, evl2, evl3, evl4, evl6, prim, slotsE, it, hc, toD_l, ha, if_true, Bool.not_false]
  | true =>
    rw [q] at ha
    have hcl : ∀ x ∈ ns, clearB ps x = true := List.all_eq_true.mp q
    refine run_seq (t := [.val (setT ns), .val (plsE true ps), .no, .no, .no, .no]) ?_ ?_
    · simp only [evl, evl2, evl3, evl4, evl6, prim, slotsE, it, hc, toD_l, ha, if_true, Bool.not_true, Bool.false_eq_true, if_false]
    have e1 := lists_pls gp (by omega : ps.length ≤ 60)
    have b1 : den__law_best [.val (setT ns), .val (plsE true ps), .val (.bl true)] = .ok (.d (bkE true (lowB ns ps))) [.no, .no, .no] := best_ok un gn zn hp z hcl true
    have b2 : den__law_best [.val (setT ns), .val (plsE true ps), .val (.bl false)] = .ok (.d (bkE true (highB ns ps))) [.no, .no, .no] := best_ok un gn zn hp z hcl false
    have p1 : den_lowest_book [.val (setT ns), .val (plsE true ps)] = _ := lowest_ok gp z un gn (by omega) hcl true true
    have p2 : den_highest_book [.val (setT ns), .val (plsE true ps)] = _ := highest_ok gp z un gn zn hcl true true
    have p3 : den_lowest_book [.val (.lst (ns.map nmD)), .val (.lst (ps.map (plE false)))] = _ := lowest_ok gp z un gn (by omega) hcl false false
    have p4 : den_highest_book [.val (.lst (ns.map nmD)), .val (.lst (ps.map (plE false)))] = _ := highest_ok gp z un gn zn hcl false false
    have p5 : den_lowest_book [.val (setT ns), .val (.lst (ps.map (plE false)))] = _ := lowest_ok gp z un gn (by omega) hcl false true
    have p6 : den_highest_book [.val (setT ns), .val (.lst (ps.map (plE false)))] = _ := highest_ok gp z un gn zn hcl false true
    have gl : gList (setT ns) = some (.o (.l (ns.map nmD))) := rfl
    have bok : ∀ low : Bool, okS 10 (bkE true (ns.map fun x => (x, bestN ns ps low x))) = true := fun low => by
      have key : ∀ x ∈ ns, GO 30 (bestN ns ps low x) := fun x hx => by
        have zr : (restT' ns x).length ≤ 3 := by have := rest_lt hx; omega
        have nr : (restT' ns x).Nodup := (up_nodup oN un).filter _
        have gr : GS (restT' ns x) := fun y hy => gn y (List.mem_filter.mp hy).1
        have hpx : ∀ p ∈ ps, p.nm = x → p.up ∈ setsB (restT' ns x) := fun p h e => by have := (hp p h).up; rw [e] at this; exact this
        cases low
        · exact fit_go (ps := ps) (t := x) gr zr (high_fits nr hpx (hcl x hx))
        · exact fit_go (ps := ps) (t := x) gr zr (low_fits nr hpx (fun p h _ => (gp p h).us) (hcl x hx))
      refine okS_bk (fun r hr => ?_) ⟨?_, fun r hr => ?_, fun r hr s hs => ?_⟩ true 6
      · obtain ⟨x, hx, rfl⟩ := List.mem_map.mp hr
        exact ⟨gn x hx, (key x hx).g⟩
      · rw [List.length_map]; exact l60' (by omega)
      · obtain ⟨x, hx, rfl⟩ := List.mem_map.mp hr
        exact l60' (Nat.le_trans (key x hx).z (by decide))
      · obtain ⟨x, hx, rfl⟩ := List.mem_map.mp hr
        exact l60' (Nat.le_trans ((key x hx).s s hs) (by decide))
    have o1 : okS 10 (bkE true (lowB ns ps)) = true := bok true
    have o2 : okS 10 (bkE true (highB ns ps)) = true := bok false
    have sm := same12 (six_okS o1 o2)
    have pk : ∀ x y : BR, pick [1, 0] [x, y] = [y, x] := fun x y => rfl
    have l2 : ∀ x y : D, (([x, y] : List D).length ≤ lim) = True := fun x y => eq_true (by show 2 ≤ lim; decide)
    have l4 : ∀ x y z w : D, (([x, y, z, w] : List D).length ≤ lim) = True := fun x y z w => eq_true (by show 4 ≤ lim; decide)
    have l6 : ∀ x y z w u v : D, (([x, y, z, w] : List D).length + ([u, v] : List D).length ≤ lim) = True := fun x y z w u v => eq_true (by show 4 + 2 ≤ lim; decide)
    have gq : gEq false (.lst (ps.map (plE false))) (.lst (ps.map (plE false))) = some (.d (.bl true)) := gEq_refl (okS_pls gp (by omega : ps.length ≤ 60) false 57)
    generalize bkE true (lowB ns ps) = L at *
    generalize bkE true (highB ns ps) = M at *
    have m3 := mul_three L M
    have ga : gAdd (.lst [L, M, L, M]) (.lst [L, M]) = some (.o (.l [L, M, L, M, L, M])) := by
      show (if ([L, M, L, M] : List D).length + ([L, M] : List D).length ≤ lim then some (PR.o (.l ([L, M, L, M] ++ [L, M]))) else none) = _
      rw [if_pos (by show 4 + 2 ≤ lim; decide)]; rfl
    refine run_seq (t := [.val (setT ns), .val (plsE true ps), .own (.l (ps.map (plE false))), .no, .no, .no]) ?_ ?_
    · simp only [evl, evl2, evl3, evl4, evl6, prim, slotsE, e1, nd0, if_true]
    refine run_seq (t := [.val (setT ns), .val (plsE true ps), .own (.l (ps.map (plE false))), .own (.l [L, M]), .no, .no]) ?_ ?_
    · simp only [evl, evl2, evl3, evl4, evl6, prim, slotsE, b1, b2, nd0, if_true, l2]
    refine run_seq (t := [.val (setT ns), .val (plsE true ps), .val (.lst (ps.map (plE false))), .own (.l [L, M]), .own (.l [L, M, L, M]), .no]) ?_ ?_
    · simp only [evl, evl2, evl3, evl4, evl6, prim, slotsE, p1, p2, p3, p4, gl, toD_l, nd0, if_true, l4]
    refine run_seq (t := [.val (setT ns), .val (plsE true ps), .val (.lst (ps.map (plE false))), .own (.l [L, M]), .own (.l [L, M, L, M, L, M]), .no]) ?_ ?_
    · simp only [evl, evl2, evl3, evl4, evl6, evl5.1, pk, prim, slotsE, p5, p6, gl, toD_l, nd0, if_true, l2, ga]
    simp only [evl, evl2, evl3, evl4, evl6, prim, slotsE, toD_l, m3, sm, e1, nd0, if_true, gq]
end U
end

section
set_option Elab.async false
set_option maxRecDepth 100000
namespace U
open PySem PySem.Spec PyProof.Rows L2
theorem hand_ok : den__law_by_hand_right [] = .ok (.d (.bl true)) [] := by kernel_rfl
end U
end

section
set_option Elab.async false
set_option linter.all false
set_option maxRecDepth 100000
set_option maxHeartbeats 0
namespace U
open PySem PySem.Spec PyProof.Rows L2
def mkD (x : Str) (i : Nat) : He.DefD := ⟨(x, none), x, x, defArgs (top i), defBody (top i), defScope (top i), [], []⟩
def fnL : List He.DefD := [mkD "set_of" 3, mkD "tupled" 4, mkD "is_in" 6, mkD "least_of" 7, mkD "told_for" 9, mkD "is_clear" 10, mkD "can_fit_places" 11, mkD "check_fit" 12, mkD "lowest_book" 13, mkD "past_all" 14, mkD "highest_book" 15, mkD "_law_box" 17, mkD "_law_take" 18, mkD "_law_cells" 19, mkD "_law_of" 20, mkD "_law_same" 21, mkD "_law_lists" 22, mkD "_law_pick" 23, mkD "_law_tags" 24, mkD "_law_book" 25, mkD "_law_able" 26, mkD "_law_sets" 27, mkD "_law_within" 28, mkD "_law_all_needs" 29, mkD "_law_fit_needs" 30, mkD "_law_places" 31, mkD "_law_best" 32, mkD "_law_case_right" 33, mkD "_law_by_hand_right" 34, mkD "_law_right" 35, mkD "law" 36]
def faL : List He.Fa := [.glo "set_of", .glo "tupled", .glo "is_in", .glo "least_of", .glo "told_for", .glo "is_clear", .glo "can_fit_places", .glo "check_fit", .glo "lowest_book", .glo "past_all", .glo "highest_book", .glo "_law_box", .glo "_law_take", .glo "_law_cells", .glo "_law_of", .glo "_law_same", .glo "_law_lists", .glo "_law_pick", .glo "_law_tags", .glo "_law_book", .glo "_law_able", .glo "_law_sets", .glo "_law_within", .glo "_law_all_needs", .glo "_law_fit_needs", .glo "_law_places", .glo "_law_best", .glo "_law_case_right", .glo "_law_by_hand_right", .glo "_law_right", .glo "law", .free "len", .free "range", .free "zip", .free "enumerate", .free "isinstance", .free "int", .free "abs", .free "list", .free "tuple", .free "str", .free "bool", .free "dict", .free "set", .free "sorted", .free "sum", .free "min", .free "max", .free "any", .free "all"]
abbrev Rw : PySem.W.OpenRow := PySem.W.OpenLaw.row PySem.Challenge.rw_upbyany_k75_lowest_and_highest_books
abbrev hkL : PySem.W.Hook := He.hookD 4 faL fnL
def obL (s : PySem.W.SharedT) : He.AlD := He.obsDG 4 faL fnL (HandSHeadRun.getT s)
theorem obL_eq (s : PySem.W.SharedT) : obL s = hkL.obs s.abs := He.obsDG_eq (HandSHeadRun.getT_eq s)
def loose0 : List Str := ["NoBook", "set_of", "tupled", "is_in", "least_of", "told_for", "is_clear", "can_fit_places", "check_fit", "lowest_book", "past_all", "highest_book", "_law_box", "_law_take", "_law_cells", "_law_of", "_law_same", "_law_lists", "_law_pick", "_law_tags", "_law_book", "_law_able", "_law_sets", "_law_within", "_law_all_needs", "_law_fit_needs", "_law_places", "_law_best", "_law_case_right", "_law_by_hand_right"]
def loose1 : List Str := ["_law_right"]
def looseL : List Str := loose0 ++ loose1
theorem run_head (w : World) : HandSHeadRun.RunEq Rw (PySem.W.view Rw.prog [36]) hkL obL 4000 looseL w := by
  intro os
  kernel_rfl
theorem facts {P : Program} {w : World} {K : PySem.W.Frag} {h : Heap} {mg : Str → Option Value} {f : Addr} (X : K.In h) (G : h.Ns mainGlobals mg) (hfa : mg ("law" : Str) = some (.ref f)) (c : He.SaysD faL fnL K) :
    ∃ fd : FuncData, (∀ (s : Shared) (v : Value), BindsTo s fd ⟨[v], []⟩ [("_law_script", v)]) ∧ ∀ base : Heap, K.In base → base.Ns mainGlobals mg → FnOk P w K mg base (L2.CX P w) 20 f fd ["_law_script"] (spOf K px0 1 den_law) := by
  have B : Blt mg := ⟨He.free_ok X G (c.fact 31 (f := .free "len") rfl), He.free_ok X G (c.fact 32 (f := .free "range") rfl), He.free_ok X G (c.fact 33 (f := .free "zip") rfl), He.free_ok X G (c.fact 34 (f := .free "enumerate") rfl), He.free_ok X G (c.fact 35 (f := .free "isinstance") rfl), He.free_ok X G (c.fact 36 (f := .free "int") rfl), He.free_ok X G (c.fact 37 (f := .free "abs") rfl), He.free_ok X G (c.fact 38 (f := .free "list") rfl), He.free_ok X G (c.fact 39 (f := .free "tuple") rfl), He.free_ok X G (c.fact 40 (f := .free "str") rfl), He.free_ok X G (c.fact 41 (f := .free "bool") rfl), He.free_ok X G (c.fact 42 (f := .free "dict") rfl), He.free_ok X G (c.fact 43 (f := .free "set") rfl), He.free_ok X G (c.fact 44 (f := .free "sorted") rfl), He.free_ok X G (c.fact 45 (f := .free "sum") rfl), He.free_ok X G (c.fact 46 (f := .free "min") rfl), He.free_ok X G (c.fact 47 (f := .free "max") rfl), He.free_ok X G (c.fact 48 (f := .free "any") rfl), He.free_ok X G (c.fact 49 (f := .free "all") rfl)⟩
  have D_set_of : DefOk K mg "set_of" (top 3) ["some"] := by
    obtain ⟨fd, F⟩ := c.def_ 0 (d := mkD "set_of" 3) rfl
    exact ⟨_, fd, F, He.glo_ok X G (c.fact 0 (f := .glo "set_of") rfl), F.bindsN fun _ _ _ _ _ _ us hl => match us, hl with | [_], _ => rfl⟩
  have D_tupled : DefOk K mg "tupled" (top 4) ["value"] := by
    obtain ⟨fd, F⟩ := c.def_ 1 (d := mkD "tupled" 4) rfl
    exact ⟨_, fd, F, He.glo_ok X G (c.fact 1 (f := .glo "tupled") rfl), F.bindsN fun _ _ _ _ _ _ us hl => match us, hl with | [_], _ => rfl⟩
  have D_is_in : DefOk K mg "is_in" (top 6) ["some", "other"] := by
    obtain ⟨fd, F⟩ := c.def_ 2 (d := mkD "is_in" 6) rfl
    exact ⟨_, fd, F, He.glo_ok X G (c.fact 2 (f := .glo "is_in") rfl), F.bindsN fun _ _ _ _ _ _ us hl => match us, hl with | [_, _], _ => rfl⟩
  have D_least_of : DefOk K mg "least_of" (top 7) ["lots"] := by
    obtain ⟨fd, F⟩ := c.def_ 3 (d := mkD "least_of" 7) rfl
    exact ⟨_, fd, F, He.glo_ok X G (c.fact 3 (f := .glo "least_of") rfl), F.bindsN fun _ _ _ _ _ _ us hl => match us, hl with | [_], _ => rfl⟩
  have D_told_for : DefOk K mg "told_for" (top 9) ["places", "unit", "came"] := by
    obtain ⟨fd, F⟩ := c.def_ 4 (d := mkD "told_for" 9) rfl
    exact ⟨_, fd, F, He.glo_ok X G (c.fact 4 (f := .glo "told_for") rfl), F.bindsN fun _ _ _ _ _ _ us hl => match us, hl with | [_, _, _], _ => rfl⟩
  have D_is_clear : DefOk K mg "is_clear" (top 10) ["places", "unit"] := by
    obtain ⟨fd, F⟩ := c.def_ 5 (d := mkD "is_clear" 10) rfl
    exact ⟨_, fd, F, He.glo_ok X G (c.fact 5 (f := .glo "is_clear") rfl), F.bindsN fun _ _ _ _ _ _ us hl => match us, hl with | [_, _], _ => rfl⟩
  have D_can_fit_places : DefOk K mg "can_fit_places" (top 11) ["names", "places"] := by
    obtain ⟨fd, F⟩ := c.def_ 6 (d := mkD "can_fit_places" 11) rfl
    exact ⟨_, fd, F, He.glo_ok X G (c.fact 6 (f := .glo "can_fit_places") rfl), F.bindsN fun _ _ _ _ _ _ us hl => match us, hl with | [_, _], _ => rfl⟩
  have D_check_fit : DefOk K mg "check_fit" (top 12) ["names", "places"] := by
    obtain ⟨fd, F⟩ := c.def_ 7 (d := mkD "check_fit" 12) rfl
    exact ⟨_, fd, F, He.glo_ok X G (c.fact 7 (f := .glo "check_fit") rfl), F.bindsN fun _ _ _ _ _ _ us hl => match us, hl with | [_, _], _ => rfl⟩
  have D_lowest_book : DefOk K mg "lowest_book" (top 13) ["names", "places"] := by
    obtain ⟨fd, F⟩ := c.def_ 8 (d := mkD "lowest_book" 13) rfl
    exact ⟨_, fd, F, He.glo_ok X G (c.fact 8 (f := .glo "lowest_book") rfl), F.bindsN fun _ _ _ _ _ _ us hl => match us, hl with | [_, _], _ => rfl⟩
  have D_past_all : DefOk K mg "past_all" (top 14) ["names", "bars"] := by
    obtain ⟨fd, F⟩ := c.def_ 9 (d := mkD "past_all" 14) rfl
    exact ⟨_, fd, F, He.glo_ok X G (c.fact 9 (f := .glo "past_all") rfl), F.bindsN fun _ _ _ _ _ _ us hl => match us, hl with | [_, _], _ => rfl⟩
  have D_highest_book : DefOk K mg "highest_book" (top 15) ["names", "places"] := by
    obtain ⟨fd, F⟩ := c.def_ 10 (d := mkD "highest_book" 15) rfl
    exact ⟨_, fd, F, He.glo_ok X G (c.fact 10 (f := .glo "highest_book") rfl), F.bindsN fun _ _ _ _ _ _ us hl => match us, hl with | [_, _], _ => rfl⟩
  have D__law_box : DefOk K mg "_law_box" (top 17) ["_law_script", "_law_k"] := by
    obtain ⟨fd, F⟩ := c.def_ 11 (d := mkD "_law_box" 17) rfl
    exact ⟨_, fd, F, He.glo_ok X G (c.fact 11 (f := .glo "_law_box") rfl), F.bindsN fun _ _ _ _ _ _ us hl => match us, hl with | [_, _], _ => rfl⟩
  have D__law_take : DefOk K mg "_law_take" (top 18) ["_law_urn", "_law_low_so"] := by
    obtain ⟨fd, F⟩ := c.def_ 12 (d := mkD "_law_take" 18) rfl
    exact ⟨_, fd, F, He.glo_ok X G (c.fact 12 (f := .glo "_law_take") rfl), F.bindsN fun _ _ _ _ _ _ us hl => match us, hl with | [_, _], _ => rfl⟩
  have D__law_cells : DefOk K mg "_law_cells" (top 19) ["_law_script", "_law_top"] := by
    obtain ⟨fd, F⟩ := c.def_ 13 (d := mkD "_law_cells" 19) rfl
    exact ⟨_, fd, F, He.glo_ok X G (c.fact 13 (f := .glo "_law_cells") rfl), F.bindsN fun _ _ _ _ _ _ us hl => match us, hl with | [_, _], _ => rfl⟩
  have D__law_of : DefOk K mg "_law_of" (top 20) ["_law_urn", "_law_some_so"] := by
    obtain ⟨fd, F⟩ := c.def_ 14 (d := mkD "_law_of" 20) rfl
    exact ⟨_, fd, F, He.glo_ok X G (c.fact 14 (f := .glo "_law_of") rfl), F.bindsN fun _ _ _ _ _ _ us hl => match us, hl with | [_, _], _ => rfl⟩
  have D__law_same : DefOk K mg "_law_same" (top 21) ["_law_got", "_law_goal"] := by
    obtain ⟨fd, F⟩ := c.def_ 15 (d := mkD "_law_same" 21) rfl
    exact ⟨_, fd, F, He.glo_ok X G (c.fact 15 (f := .glo "_law_same") rfl), F.bindsN fun _ _ _ _ _ _ us hl => match us, hl with | [_, _], _ => rfl⟩
  have D__law_lists : DefOk K mg "_law_lists" (top 22) ["_law_matter"] := by
    obtain ⟨fd, F⟩ := c.def_ 16 (d := mkD "_law_lists" 22) rfl
    exact ⟨_, fd, F, He.glo_ok X G (c.fact 16 (f := .glo "_law_lists") rfl), F.bindsN fun _ _ _ _ _ _ us hl => match us, hl with | [_], _ => rfl⟩
  have D__law_pick : DefOk K mg "_law_pick" (top 23) ["_law_urn", "_law_pool", "_law_size_so"] := by
    obtain ⟨fd, F⟩ := c.def_ 17 (d := mkD "_law_pick" 23) rfl
    exact ⟨_, fd, F, He.glo_ok X G (c.fact 17 (f := .glo "_law_pick") rfl), F.bindsN fun _ _ _ _ _ _ us hl => match us, hl with | [_, _, _], _ => rfl⟩
  have D__law_tags : DefOk K mg "_law_tags" (top 24) ["_law_urn", "_law_size_so"] := by
    obtain ⟨fd, F⟩ := c.def_ 18 (d := mkD "_law_tags" 24) rfl
    exact ⟨_, fd, F, He.glo_ok X G (c.fact 18 (f := .glo "_law_tags") rfl), F.bindsN fun _ _ _ _ _ _ us hl => match us, hl with | [_, _], _ => rfl⟩
  have D__law_book : DefOk K mg "_law_book" (top 25) ["_law_urn", "_law_tags_here"] := by
    obtain ⟨fd, F⟩ := c.def_ 19 (d := mkD "_law_book" 25) rfl
    exact ⟨_, fd, F, He.glo_ok X G (c.fact 19 (f := .glo "_law_book") rfl), F.bindsN fun _ _ _ _ _ _ us hl => match us, hl with | [_, _], _ => rfl⟩
  have D__law_able : DefOk K mg "_law_able" (top 26) ["_law_needs_so", "_law_up_so"] := by
    obtain ⟨fd, F⟩ := c.def_ 20 (d := mkD "_law_able" 26) rfl
    exact ⟨_, fd, F, He.glo_ok X G (c.fact 20 (f := .glo "_law_able") rfl), F.bindsN fun _ _ _ _ _ _ us hl => match us, hl with | [_, _], _ => rfl⟩
  have D__law_sets : DefOk K mg "_law_sets" (top 27) ["_law_tags_here"] := by
    obtain ⟨fd, F⟩ := c.def_ 21 (d := mkD "_law_sets" 27) rfl
    exact ⟨_, fd, F, He.glo_ok X G (c.fact 21 (f := .glo "_law_sets") rfl), F.bindsN fun _ _ _ _ _ _ us hl => match us, hl with | [_], _ => rfl⟩
  have D__law_within : DefOk K mg "_law_within" (top 28) ["_law_lot", "_law_far"] := by
    obtain ⟨fd, F⟩ := c.def_ 22 (d := mkD "_law_within" 28) rfl
    exact ⟨_, fd, F, He.glo_ok X G (c.fact 22 (f := .glo "_law_within") rfl), F.bindsN fun _ _ _ _ _ _ us hl => match us, hl with | [_, _], _ => rfl⟩
  have D__law_all_needs : DefOk K mg "_law_all_needs" (top 29) ["_law_others"] := by
    obtain ⟨fd, F⟩ := c.def_ 23 (d := mkD "_law_all_needs" 29) rfl
    exact ⟨_, fd, F, He.glo_ok X G (c.fact 23 (f := .glo "_law_all_needs") rfl), F.bindsN fun _ _ _ _ _ _ us hl => match us, hl with | [_], _ => rfl⟩
  have D__law_fit_needs : DefOk K mg "_law_fit_needs" (top 30) ["_law_tags_here", "_law_places_in", "_law_tag"] := by
    obtain ⟨fd, F⟩ := c.def_ 24 (d := mkD "_law_fit_needs" 30) rfl
    exact ⟨_, fd, F, He.glo_ok X G (c.fact 24 (f := .glo "_law_fit_needs") rfl), F.bindsN fun _ _ _ _ _ _ us hl => match us, hl with | [_, _, _], _ => rfl⟩
  have D__law_places : DefOk K mg "_law_places" (top 31) ["_law_urn", "_law_tags_here", "_law_host", "_law_many_so"] := by
    obtain ⟨fd, F⟩ := c.def_ 25 (d := mkD "_law_places" 31) rfl
    exact ⟨_, fd, F, He.glo_ok X G (c.fact 25 (f := .glo "_law_places") rfl), F.bindsN fun _ _ _ _ _ _ us hl => match us, hl with | [_, _, _, _], _ => rfl⟩
  have D__law_best : DefOk K mg "_law_best" (top 32) ["_law_tags_here", "_law_places_in", "_law_low_so"] := by
    obtain ⟨fd, F⟩ := c.def_ 26 (d := mkD "_law_best" 32) rfl
    exact ⟨_, fd, F, He.glo_ok X G (c.fact 26 (f := .glo "_law_best") rfl), F.bindsN fun _ _ _ _ _ _ us hl => match us, hl with | [_, _, _], _ => rfl⟩
  have D__law_case_right : DefOk K mg "_law_case_right" (top 33) ["_law_tags_here", "_law_places_in"] := by
    obtain ⟨fd, F⟩ := c.def_ 27 (d := mkD "_law_case_right" 33) rfl
    exact ⟨_, fd, F, He.glo_ok X G (c.fact 27 (f := .glo "_law_case_right") rfl), F.bindsN fun _ _ _ _ _ _ us hl => match us, hl with | [_, _], _ => rfl⟩
  have D__law_by_hand_right : DefOk K mg "_law_by_hand_right" (top 34) [] := by
    obtain ⟨fd, F⟩ := c.def_ 28 (d := mkD "_law_by_hand_right" 34) rfl
    exact ⟨_, fd, F, He.glo_ok X G (c.fact 28 (f := .glo "_law_by_hand_right") rfl), F.bindsN fun _ _ _ _ _ _ us hl => match us, hl with | [], _ => rfl⟩
  have D__law_right : DefOk K mg "_law_right" (top 35) ["_law_urn"] := by
    obtain ⟨fd, F⟩ := c.def_ 29 (d := mkD "_law_right" 35) rfl
    exact ⟨_, fd, F, He.glo_ok X G (c.fact 29 (f := .glo "_law_right") rfl), F.bindsN fun _ _ _ _ _ _ us hl => match us, hl with | [_], _ => rfl⟩
  obtain ⟨fd, F⟩ := c.def_ 30 (d := mkD "law" 36) rfl
  have e := hfa.symm.trans (He.glo_ok X G (c.fact 30 (f := .glo "law") rfl))
  cases e
  have b := FunD.bindsA (ps := ["_law_script"]) F fun _ _ _ _ _ _ us hl => match us, hl with | [_], _ => rfl
  refine ⟨fd, fun s v => b s [v] rfl, fun base _ _ => ?_⟩
  have C_set_of : Callee P w K mg base px0 "set_of" (defArgs (top 3)) ["some"] 1 den_set_of := ok_set_of B D_set_of 
  have C_tupled : Callee P w K mg base px0 "tupled" (defArgs (top 4)) ["value"] 12 (den_tupled 12) := ok_tupled B D_tupled  12
  have C_is_in : Callee P w K mg base px0 "is_in" (defArgs (top 6)) ["some", "other"] 1 den_is_in := ok_is_in B D_is_in 
  have C_least_of : Callee P w K mg base px0 "least_of" (defArgs (top 7)) ["lots"] 2 den_least_of := ok_least_of B D_least_of C_set_of C_is_in
  have C_told_for : Callee P w K mg base px0 "told_for" (defArgs (top 9)) ["places", "unit", "came"] 13 den_told_for := ok_told_for B D_told_for C_tupled C_set_of
  have C_is_clear : Callee P w K mg base px0 "is_clear" (defArgs (top 10)) ["places", "unit"] 14 den_is_clear := ok_is_clear B D_is_clear C_told_for C_is_in
  have C_can_fit_places : Callee P w K mg base px0 "can_fit_places" (defArgs (top 11)) ["names", "places"] 15 den_can_fit_places := ok_can_fit_places B D_can_fit_places C_is_clear
  have C_check_fit : Callee P w K mg base px0 "check_fit" (defArgs (top 12)) ["names", "places"] 16 den_check_fit := ok_check_fit B D_check_fit C_can_fit_places
  have C_lowest_book : Callee P w K mg base px0 "lowest_book" (defArgs (top 13)) ["names", "places"] 17 den_lowest_book := ok_lowest_book B D_lowest_book C_check_fit C_least_of C_told_for
  have C_past_all : Callee P w K mg base px0 "past_all" (defArgs (top 14)) ["names", "bars"] 3 den_past_all := ok_past_all B D_past_all C_is_in C_set_of C_least_of
  have C_highest_book : Callee P w K mg base px0 "highest_book" (defArgs (top 15)) ["names", "places"] 17 den_highest_book := ok_highest_book B D_highest_book C_check_fit C_past_all C_told_for
  have C__law_box : Callee P w K mg base px0 "_law_box" (defArgs (top 17)) ["_law_script", "_law_k"] 1 den__law_box := ok__law_box B D__law_box 
  have C__law_take : Callee P w K mg base px0 "_law_take" (defArgs (top 18)) ["_law_urn", "_law_low_so"] 1 den__law_take := ok__law_take B D__law_take 
  have C__law_cells : Callee P w K mg base px0 "_law_cells" (defArgs (top 19)) ["_law_script", "_law_top"] 1 den__law_cells := ok__law_cells B D__law_cells 
  have C__law_of : Callee P w K mg base px0 "_law_of" (defArgs (top 20)) ["_law_urn", "_law_some_so"] 2 den__law_of := ok__law_of B D__law_of C__law_take
  have C__law_same : Callee P w K mg base px0 "_law_same" (defArgs (top 21)) ["_law_got", "_law_goal"] 12 (den__law_same 12) := ok__law_same B D__law_same  12
  have C__law_lists : Callee P w K mg base px0 "_law_lists" (defArgs (top 22)) ["_law_matter"] 12 (den__law_lists 12) := ok__law_lists B D__law_lists  12
  have C__law_pick : Callee P w K mg base px0 "_law_pick" (defArgs (top 23)) ["_law_urn", "_law_pool", "_law_size_so"] 2 den__law_pick := ok__law_pick B D__law_pick C__law_take
  have C__law_tags : Callee P w K mg base px0 "_law_tags" (defArgs (top 24)) ["_law_urn", "_law_size_so"] 3 den__law_tags := ok__law_tags B D__law_tags C__law_pick
  have C__law_book : Callee P w K mg base px0 "_law_book" (defArgs (top 25)) ["_law_urn", "_law_tags_here"] 3 den__law_book := ok__law_book B D__law_book C__law_take C__law_pick
  have C__law_able : Callee P w K mg base px0 "_law_able" (defArgs (top 26)) ["_law_needs_so", "_law_up_so"] 1 den__law_able := ok__law_able B D__law_able 
  have C__law_sets : Callee P w K mg base px0 "_law_sets" (defArgs (top 27)) ["_law_tags_here"] 1 den__law_sets := ok__law_sets B D__law_sets 
  have C__law_within : Callee P w K mg base px0 "_law_within" (defArgs (top 28)) ["_law_lot", "_law_far"] 1 den__law_within := ok__law_within B D__law_within 
  have C__law_all_needs : Callee P w K mg base px0 "_law_all_needs" (defArgs (top 29)) ["_law_others"] 2 den__law_all_needs := ok__law_all_needs B D__law_all_needs C__law_sets C__law_within
  have C__law_fit_needs : Callee P w K mg base px0 "_law_fit_needs" (defArgs (top 30)) ["_law_tags_here", "_law_places_in", "_law_tag"] 3 den__law_fit_needs := ok__law_fit_needs B D__law_fit_needs C__law_all_needs C__law_able
  have C__law_places : Callee P w K mg base px0 "_law_places" (defArgs (top 31)) ["_law_urn", "_law_tags_here", "_law_host", "_law_many_so"] 3 den__law_places := ok__law_places B D__law_places C__law_of C__law_pick C__law_take C__law_able
  have C__law_best : Callee P w K mg base px0 "_law_best" (defArgs (top 32)) ["_law_tags_here", "_law_places_in", "_law_low_so"] 4 den__law_best := ok__law_best B D__law_best C__law_fit_needs C__law_sets C__law_able
  have C__law_case_right : Callee P w K mg base px0 "_law_case_right" (defArgs (top 33)) ["_law_tags_here", "_law_places_in"] 18 den__law_case_right := ok__law_case_right B D__law_case_right C__law_fit_needs C__law_lists C__law_best C_highest_book C_lowest_book C__law_same
  have C__law_by_hand_right : Callee P w K mg base px0 "_law_by_hand_right" (defArgs (top 34)) [] 19 den__law_by_hand_right := ok__law_by_hand_right B D__law_by_hand_right C_highest_book C_lowest_book C__law_same C__law_case_right
  have C__law_right : Callee P w K mg base px0 "_law_right" (defArgs (top 35)) ["_law_urn"] 19 den__law_right := ok__law_right B D__law_right C__law_tags C__law_take C__law_case_right C__law_places C__law_book
  exact ok_law B F C__law_by_hand_right C__law_cells C__law_right C__law_box
end U
end

section
set_option Elab.async false
set_option linter.all false
set_option maxRecDepth 100000
namespace U
open PySem PySem.Spec PyProof.Rows L2
theorem sIf_hand {dH : List Sl → DR} (h : dH [] = .ok (.d (.bl true)) []) (τ : T) : sIfS (sNot (sTru (toB (frz (sCall dH sBNil))))) (sRet (sC (.bl false))) (sNext) τ = .nx τ := by
  simp only [evl, evl2, evl3, evl4, prim, slotsE, nd0, if_true, h, Bool.not_true, Bool.false_eq_true, if_false]
theorem tags_eq {k : Nat} {u : List D} (hu : Urn k u) (n : Nat) (hk : k + 100 < 2 ^ 60) (hn : n ≤ 8) : ∃ (u' : List D) (ns : NS), Urn (k + 60) u' ∧ Up ltN ns ∧ ns.length = n ∧ GS ns ∧ den__law_tags [.io (.l u), .val (.int n)] = .ok (.d (setT ns)) [.io (.l u'), .no] := by
  obtain ⟨u', fs, rs, h1, h2, h3, h4⟩ := pick_ok false hu (ns := pool11) n hk (by decide)
  obtain ⟨nf, sf⟩ := drawn h2 pool_nd
  have gf : GS fs := fun x hx => pool_good x (sf x hx)
  have lf : fs.length = n := by rw [h3, show pool11.length = 11 from rfl]; omega
  have gso : gSorted (.lst (fs.map nmD)) = some (.o (.l ((isort ltN fs).map nmD))) := gSorted_nms false gf (lim_big (by omega))
  refine ⟨u', isort ltN fs, h1, isort_up oN nf, by rw [(isort_perm fs).length_eq]; exact lf, fun x hx => gf x ((isort_perm fs).mem_iff.mp hx), ?_⟩
  have h4' : den__law_pick [.io (.l u), .val (.lst [.str [97], .str [98], .str [99], .str [100], .str [101], .str [102], .str [97, 98], .str [98, 97], .str [111, 114, 98], .str [122], .str [97, 98, 99, 100, 101, 102, 103, 104]]), .val (.int n)] = .ok (.o (.l (fs.map nmD))) [.io (.l u'), .no, .no] := h4
  have et : setT (isort ltN fs) = .tup ((isort ltN fs).map nmD) := rfl
  rw [et]
  simp only [den__law_tags, f__law_tags, evl, evl2, evl3, evl4, prim, slotsE, if_true, List.length_cons, List.length_nil, Nat.reduceAdd, limE, nd1, h4', gso]
theorem bp_good {ns : NS} {b : Bk} (gn : GS ns) (un : Up ltN ns) (zn : ns.length ≤ 8) (hm : b.map (·.1) = ns) (hr : ∀ r ∈ b, RowOk ns r) : GBp b where
  good := fun r h => ⟨gn r.1 (by rw [← hm]; exact List.mem_map.mpr ⟨r, h, rfl⟩), fun s hs x hx => gn x (((hr r h).2.2 s hs).2.1 x hx)⟩
  rows := by rw [← List.length_map (f := (·.1)), hm]; exact zn
  needs := fun r h => Nat.le_trans (hr r h).1 (by decide)
  names := fun r h s hs => Nat.le_trans ((hr r h).2.2 s hs).2.2 (by decide)
  nd := by rw [hm]; exact up_nodup oN un
theorem turn_ok {k : Nat} {u : List D} (hu : Urn k u) (hk : k + 50000 < 2 ^ 59) (d : D) (s1 s2 : Sl) (f1 : s1.free = true) (f2 : s2.free = true) : ∃ (u' : List D) (t2 : Sl), Urn (k + 50000) u' ∧ t2.free = true ∧
    b0__law_right d [.own (.l u), s1, s2] = .nx [.own (.l u'), .val d, t2] := by
  obtain ⟨n0, u1, n1, n2, hu1, e1⟩ := take_ok hu (by omega) (n := 4) (by decide) (log2_few (by decide))
  obtain ⟨n, rfl⟩ := Int.eq_ofNat_of_zero_le n1
  obtain ⟨u2, ns, hu2, un, zn, gn, e2⟩ := tags_eq hu1 (1 + n) (by omega) (by omega)
  obtain ⟨u3, b, hu3, hb, hr, e3⟩ := book_ok hu2 un gn (by omega) (by omega)
  obtain ⟨m0, u4, m1, m2, hu4, e4⟩ := take_ok hu3 (by omega) (n := 11) (by decide) (log2_few (by decide))
  obtain ⟨m, rfl⟩ := Int.eq_ofNat_of_zero_le m1
  have gb := bp_good gn un (by omega) hb hr
  obtain ⟨u5, ps, hu5, h1, h2, e5⟩ := places_ok un gn (by omega) (by omega) gb hb hu4 m (by omega) (by omega)
  have ec := case_ok un gn (by omega) h1 h2
  have e2' : den__law_tags [.io (.l u1), .val (.int (1 + (n : Int)))] = .ok (.d (setT ns)) [.io (.l u2), .no] := by
    have : (1 + (n : Int)) = ((1 + n : Nat) : Int) := by omega
    rw [this]; exact e2
  refine ⟨u5, .val (setT ns), hu5.mono (by omega), rfl, ?_⟩
  simp only [b0__law_right, evl, evl2, evl3, evl4, evl6, prim, slotsE, f1, f2, if_true, nd1, nd0, e1, e2', e3, e4, e5, ec, Bool.not_true, Bool.false_eq_true, if_false]
theorem right_loop : ∀ (ds : List D) (k : Nat) (u : List D) (s1 s2 : Sl), Urn k u → k + 50000 * ds.length + 50000 < 2 ^ 59 → s1.free = true → s2.free = true →
    ∃ (u' : List D) (t1 t2 : Sl), forL b0__law_right ds [.own (.l u), s1, s2] = .nx [.own (.l u'), t1, t2]
  | [], k, u, s1, s2, _, _, _, _ => ⟨u, s1, s2, rfl⟩
  | d :: ds, k, u, s1, s2, hu, hk, f1, f2 => by
    rw [List.length_cons] at hk
    obtain ⟨u1, t2, hu1, g2, e⟩ := turn_ok hu (by omega) d s1 s2 f1 f2
    obtain ⟨u', r1, r2, ih⟩ := right_loop ds (k + 50000) u1 (.val d) t2 hu1 (by omega) rfl g2
    refine ⟨u', r1, r2, ?_⟩
    rw [forL_step e]
    exact ih
theorem right_ok {u : List D} (hu : Urn 0 u) : den__law_right [.own (.l u)] = .ok (.d (.bl true)) [.no] := by
  obtain ⟨u', t1, t2, e⟩ := right_loop (rng 0 8) 0 u .no .no hu (by simp [rng]) rfl rfl
  have hr : ((8 : Int).natAbs < 2 ^ 62) = True := eq_true (by decide)
  have e8 : (8 : Int).toNat = 8 := rfl
  show DR.of (f__law_right [.own (.l u), .no, .no]) [.own (.l u)] = _
  rw [nE__law_right]
  refine run_seq (t := [.own (.l u'), t1, t2]) ?_ ?_
  · simp only [evl, evl2, evl3, evl4, evl6, prim, slotsE, hr, e8, if_true]
    exact e
  · simp only [evl, evl2, evl3, evl4, evl6, prim, slotsE]
theorem law_step {dR dB : List Sl → DR} {u u' : List D} {v0 : Sl} {c : D} {k : Nat} (hb : dB [.val c, .val (.int k)] = .ok (.o (.l u)) [.no, .no]) (hr : dR [.own (.l u)] = .ok (.d (.bl true)) [.no]) :
    turnC (gNm 2) (fun τ => .ok true τ) (frz (sCallF dR (sCall dB (sBCons (toB (frz (sVar 1))) (sBCons (toB (frz (sVar 2))) (sBNil)))))) [2] (.int k) [v0, .val c, .no] = .ok (some (.bl true)) [v0, .val c, .no] := by
  simp only [evl, evl2, evl3, evl4, prim, slotsE, if_true, nd0, hb, hr]
theorem law_step0 {dR dB : List Sl → DR} {u : List D} {v0 : Sl} {cs : List D} {k : Nat} (hb : dB [.val (.lst cs), .val (.int k)] = .ok (.o (.l u)) [.no, .no]) (hr : dR [.own (.l u)] = .ok (.d (.bl true)) [.no]) :
    turnC (gNm 2) (fun τ => .ok true τ) (frz (sCallF dR (sCall dB (sBCons (toB (frz (sVar 1))) (sBCons (toB (frz (sVar 2))) (sBNil)))))) [2] (.int k) [v0, .own (.l cs), .no] = .ok (some (.bl true)) [v0, .val (.lst cs), .no] := by
  simp only [evl, evl2, evl3, evl4, prim, slotsE, if_true, nd0, hb, hr]
theorem compL_first {f : D → T → Rs (Option D)} {d z : D} {xs : List Nat} {g h : Nat → D} {τ τ' : T} (h0 : f d τ = .ok (some z) τ') (hf : ∀ j ∈ xs, f (g j) τ' = .ok (some (h j)) τ') (hl : xs.length ≤ 1000) : compL f (d :: xs.map g) τ [] = .ok (z :: xs.map h) τ' := by
  have key : ∀ (xs : List Nat) (acc : List D), (∀ x ∈ xs, f (g x) τ' = .ok (some (h x)) τ') → acc.length + xs.length ≤ lim → compL f (xs.map g) τ' acc = .ok (acc ++ xs.map h) τ' := fun xs => by
    induction xs with
    | nil => intro acc _ _; simp [compL]
    | cons x xs ih =>
      intro acc hf hl
      rw [List.length_cons] at hl
      have hlt : acc.length < lim := by omega
      show (match f (g x) τ' with
        | .ok (some z) τ1 => if acc.length < lim then compL f (xs.map g) τ1 (acc ++ [z]) else .stuck
        | .ok none τ1 => compL f (xs.map g) τ1 acc
        | _ => .stuck) = _
      rw [hf x (List.mem_cons_self ..)]
      show (if acc.length < lim then compL f (xs.map g) τ' (acc ++ [h x]) else .stuck) = _
      rw [if_pos hlt, ih (acc ++ [h x]) (fun z hz => hf z (List.mem_cons_of_mem _ hz)) (by rw [List.length_append, List.length_singleton]; omega)]
      simp
  show (match f d τ with
    | .ok (some z) τ1 => if ([] : List D).length < lim then compL f (xs.map g) τ1 ([] ++ [z]) else .stuck
    | .ok none τ1 => compL f (xs.map g) τ1 []
    | _ => .stuck) = _
  rw [h0]
  show (if ([] : List D).length < lim then compL f (xs.map g) τ' [z] else .stuck) = _
  rw [if_pos (by decide), key xs [z] hf (by rw [List.length_singleton]; exact Nat.le_trans (Nat.add_le_add_left hl 1) (by decide))]
  rfl
theorem law_true (ns : List Int) (hn : ns.length ≤ 63) : ∃ fs, den_law [.val (.scr ns)] = .ok (.d (.bl true)) fs := by
  obtain ⟨cs, h1, h3, ec⟩ := cells_ok ns hn
  have hl : gLen (.lst (cs.map D.int)) = some (.d (.int cs.length)) := by
    show some (PR.d (D.int ((cs.map D.int).length : Nat))) = _
    rw [List.length_map]
  obtain ⟨n, hn1⟩ : ∃ n, cs.length = n + 1 := ⟨cs.length - 1, by omega⟩
  have hr : rng 0 cs.length = .int ((0 : Nat) : Int) :: (List.range' 1 n).map fun (j : Nat) => D.int (j : Int) := by
    unfold rng
    rw [hn1, List.range_eq_range', List.range'_succ, List.map_cons, List.map_congr_left (g := fun (j : Nat) => D.int (j : Int)) fun j _ => by rw [Int.zero_add]]
    rfl
  have hc : compL c0_law (rng 0 cs.length) [.val (.scr ns), .own (.l (cs.map D.int)), .no] []
      = .ok (D.bl true :: (List.range' 1 n).map fun _ => D.bl true) [.val (.scr ns), .val (.lst (cs.map D.int)), .no] := by
    rw [hr]
    obtain ⟨u, hu, eb⟩ := box_ok cs 0 (by omega) h3
    refine compL_first (law_step0 eb (right_ok hu)) ?_ (by rw [List.length_range']; omega)
    intro j hj
    obtain ⟨u, hu, eb⟩ := box_ok cs j (by have := List.mem_range'_1.mp hj; omega) h3
    exact law_step (u' := u) eb (right_ok hu)
  have hall : gAll (.lst (D.bl true :: (List.range' 1 n).map fun _ => D.bl true)) = some (.d (.bl true)) := gAll_true fun d hd => by
    rcases List.mem_cons.mp hd with e | hd
    · exact e
    · obtain ⟨_, _, e⟩ := List.mem_map.mp hd
      exact e.symm
  refine ⟨[.no], ?_⟩
  have hsm := small62 (n := cs.length) (by omega)
  have htn := toNatI cs.length
  show DR.of (f_law [.val (.scr ns), .no, .no]) [.val (.scr ns)] = _
  rw [nE_law]
  refine run_seq (sIf_hand hand_ok _) ?_
  simp only [evl, evl2, evl3, evl4, evl6, prim, slotsE, if_true, nd0, ec, hl, hsm, htn]
  rw [hc]
  simp only [evl, evl2, evl3, evl4, prim, slotsE, hall]
end U
end

section
set_option Elab.async false
set_option maxRecDepth 100000
open PySem PySem.W PySem.Calls PyProof.Rows
set_option maxHeartbeats 0 in
theorem PySem.Challenge.cw_upbyany_k75_lowest_and_highest_books_holds : PySem.Challenge.rw_upbyany_k75_lowest_and_highest_books.Holds := by
  w_on; o_law
  refine HandSHeadRun.head_any (r := (PySem.W.OpenLaw.row PySem.Challenge.rw_upbyany_k75_lowest_and_highest_books)) (q := view (PySem.W.OpenLaw.row PySem.Challenge.rw_upbyany_k75_lowest_and_highest_books).prog [36]) (H := U.hkL) (ob := U.obL) (M := 4000) (loose := U.looseL) (d := HandSHeadRun.topDef (PySem.W.OpenLaw.row PySem.Challenge.rw_upbyany_k75_lowest_and_highest_books).prog 36) (kwd := []) U.obL_eq
    (by kernel_rfl) (fun s => by kernel_rfl) U.run_head (by kernel_rfl) (by kernel_rfl) (by kernel_rfl) (by rfl) (by first | assumption | decide +kernel) (by decide +kernel) ⟨rfl, rfl, rfl, rfl, rfl, by decide +kernel⟩ ?hw ?hc
  case hw => w_witness2
  case hc =>
    refine U.walk_U (l := PySem.Challenge.rw_upbyany_k75_lowest_and_highest_books) (n := 63) (k := 20) (x := "_law_script") (px := U.px0) (den := U.den_law) rfl (by decide) (by kernel_rfl) ⟨rfl, by decide, by decide⟩ ?F U.law_true
    intro w mg fa h Y G hmg0
    obtain ⟨K, KX, c⟩ := Y
    have hmg : mg ("law" : PySem.Str) = some (.ref fa) := by
      have e : (HandSHeadRun.topDef (PySem.W.OpenLaw.row PySem.Challenge.rw_upbyany_k75_lowest_and_highest_books).prog 36).name = ("law" : PySem.Str) := by kernel_rfl
      rw [← e]
      exact hmg0
    obtain ⟨fd, hb, hF⟩ := U.facts (P := (PySem.Challenge.rw_upbyany_k75_lowest_and_highest_books).prog) (w := w) KX G hmg c
    exact ⟨K, fd, KX, hb, hF⟩
end
