import PyProof.Rows.All
import Wide.All
import OpenK.AllK
import Wide.FinOn
import HandS.ForMost
import HandS.ForExc
import HandS.Wide
import HandS.Walk
import HandS.Flow
import HandS.Deep
import KE.DataCmp
import KE.SortData
import HandS.TupAny
import HandS.TupMul
import HandS.IsInst
import PyProof.TupleOfStr
import KE.DataMinMax
import HandS.Star
import HandS.Zip
import HandS.NoneIn
import KE.GoesMore
import HandS.ExcOwn
import HandS.CallSlots
import HandS.Defaults
import HandS.Lambda
import PyProof.SumAny
import HandS.HeadHook2
import HandS.HeadEnd
import HandS.Ends
import KE.KStateDown
import HandS.More
import HandS.Words
import HandS.WordsExc
import HandS.Head0
import HandS.Head1
import HandS.Head2
import HandS.HeadHook1
import PySem.Challenge.RW_upbyany_k83_whole_great_stages_one_behin
section
set_option Elab.async false
set_option linter.all false
set_option maxRecDepth 100000
namespace U
open PySem PySem.Spec PyProof.Rows L2


abbrev St := L2.St
inductive D where
  | non | bl (b : Bool) | int (i : Int) | str (x : List Nat)
  | tup (xs : List D) | lst (xs : List D) | dct (t : Bool) (ks vs : List D) | exc (c : Nat) (fs : List D)
  /-- the script -/
  | scr (ns : List Int)

abbrev stO (x : List Nat) : Str := ⟨x.toArray⟩

/-- a dict's key among D -/
def D.key : D → Option Key
  | .int i => some (.inl i)
  | .str x => some (.inr (stO x))
  | _ => none
def keysOf : List D → Option (List Key)
  | [] => some []
  | d :: ds => match d.key, keysOf ds with
    | some k, some ks => some (k :: ks)
    | _, _ => none
/-- a tuple of such as a key -/
def D.keyT : D → Option (List Key)
  | .tup xs => keysOf xs
  | _ => none
def keysTOf : List D → Option (List (List Key))
  | [] => some []
  | d :: ds => match d.keyT, keysTOf ds with
    | some k, some ks => some (k :: ks)
    | _, _ => none

mutual
inductive Rep (K : PySem.W.Frag) (F : Hp) : V → D → Prop
  | non : Rep K F .non .non
  | bl (b : Bool) : Rep K F (.bl b) (.bl b)
  | int (i : Int) : Rep K F (.int i) (.int i)
  | str (x : List Nat) : Rep K F (.str (stO x)) (.str x)
  | tup {a : Addr} {vs : List V} {ds : List D} : F a = some (.tup vs) → RepL K F vs ds → Rep K F (.ref a) (.tup ds)
  | lst {a : Addr} {vs : List V} {ds : List D} : F a = some (.lst vs) → RepL K F vs ds → Rep K F (.ref a) (.lst ds)
  | scr {a : Addr} {ns : List Int} : SqL K F a (ns.map V.int) → Rep K F (.ref a) (.scr ns)
  | dK {a : Addr} {o : Obj} {kvs : List (Key × V)} {ks ds : List D} : F a = some (.frz o (.dK kvs)) → keysOf ks = some (kvs.map (·.1)) → RepL K F (kvs.map (·.2)) ds → Rep K F (.ref a) (.dct false ks ds)
  | dT {a : Addr} {o : Obj} {kvs : List (List Key × V)} {ks ds : List D} : F a = some (.frz o (.dT kvs)) → keysTOf ks = some (kvs.map (·.1)) → RepL K F (kvs.map (·.2)) ds → Rep K F (.ref a) (.dct true ks ds)
inductive RepL (K : PySem.W.Frag) (F : Hp) : List V → List D → Prop
  | nil : RepL K F [] []
  | cons {v : V} {vs : List V} {d : D} {ds : List D} : Rep K F v d → RepL K F vs ds → RepL K F (v :: vs) (d :: ds)
end

/-- more is frozen -/
def Sub (F F' : Hp) : Prop := ∀ a o, F a = some o → F' a = some o
theorem Sub.refl (F : Hp) : Sub F F := fun _ _ h => h
theorem Sub.trans {F G H : Hp} (a : Sub F G) (b : Sub G H) : Sub F H := fun x o h => b x o (a x o h)
theorem Sub.upd {F : Hp} {a : Addr} {o : HO} (h : F a = none) : Sub F (upd F a o) := fun b x e => by
  rw [upd_ne (ne_of_none e h)]; exact e
theorem Sub.sqL {K : PySem.W.Frag} {F F' : Hp} {a : Addr} {xs : List V} (e : Sub F F') (h : SqL K F a xs) : SqL K F' a xs := by
  rcases h with (h | ⟨o, h⟩) | h
  · exact .inl (.inl (e _ _ h))
  · exact .inl (.inr ⟨o, e _ _ h⟩)
  · exact .inr h
theorem Sub.rd {F F' : Hp} {a : Addr} {u : HO} (e : Sub F F') (h : Rd F a u) : Rd F' a u := by
  rcases h with h | ⟨o, h⟩
  · exact .inl (e _ _ h)
  · exact .inr ⟨o, e _ _ h⟩
theorem Sub.sqT {K : PySem.W.Frag} {F F' : Hp} {a : Addr} {xs : List V} (e : Sub F F') (h : SqT K F a xs) : SqT K F' a xs := by
  rcases h with (h | ⟨o, h⟩) | h
  · exact .inl (.inl (e _ _ h))
  · exact .inl (.inr ⟨o, e _ _ h⟩)
  · exact .inr h
mutual
theorem Rep.mono {K : PySem.W.Frag} {F F' : Hp} (e : Sub F F') : ∀ {v : V} {d : D}, Rep K F v d → Rep K F' v d
  | _, _, .non => .non
  | _, _, .bl b => .bl b
  | _, _, .int i => .int i
  | _, _, .str x => .str x
  | _, _, .tup h r => .tup (e _ _ h) (RepL.mono e r)
  | _, _, .lst h r => .lst (e _ _ h) (RepL.mono e r)
  | _, _, .scr h => .scr (e.sqL h)
  | _, _, .dK h k r => .dK (e _ _ h) k (RepL.mono e r)
  | _, _, .dT h k r => .dT (e _ _ h) k (RepL.mono e r)
theorem RepL.mono {K : PySem.W.Frag} {F F' : Hp} (e : Sub F F') : ∀ {vs : List V} {ds : List D}, RepL K F vs ds → RepL K F' vs ds
  | _, _, .nil => .nil
  | _, _, .cons h r => .cons (Rep.mono e h) (RepL.mono e r)
end
theorem RepL.length {K : PySem.W.Frag} {F : Hp} : ∀ {vs : List V} {ds : List D}, RepL K F vs ds → vs.length = ds.length
  | _, _, .nil => rfl
  | _, _, .cons _ r => congrArg (· + 1) r.length
theorem RepL.get {K : PySem.W.Frag} {F : Hp} : ∀ {vs : List V} {ds : List D}, RepL K F vs ds → ∀ {i : Nat} {d : D}, ds[i]? = some d → ∃ v, vs[i]? = some v ∧ Rep K F v d
  | _, _, .nil, i, d, e => by simp at e
  | _, _, .cons h r, 0, d, e => by simp at e; subst e; exact ⟨_, rfl, h⟩
  | _, _, .cons h r, i + 1, d, e => r.get (i := i) (by simpa using e)
theorem RepL.getV {K : PySem.W.Frag} {F : Hp} : ∀ {vs : List V} {ds : List D}, RepL K F vs ds → ∀ {i : Nat} {v : V}, vs[i]? = some v → ∃ d, ds[i]? = some d ∧ Rep K F v d
  | _, _, .nil, i, d, e => by simp at e
  | _, _, .cons h r, 0, d, e => by simp at e; subst e; exact ⟨_, rfl, h⟩
  | _, _, .cons h r, i + 1, d, e => r.getV (i := i) (by simpa using e)
theorem RepL.append {K : PySem.W.Frag} {F : Hp} : ∀ {vs ws : List V} {ds es : List D}, RepL K F vs ds → RepL K F ws es → RepL K F (vs ++ ws) (ds ++ es)
  | _, _, _, _, .nil, s => s
  | _, _, _, _, .cons h r, s => .cons h (r.append s)
theorem RepL.take {K : PySem.W.Frag} {F : Hp} : ∀ {vs : List V} {ds : List D} (n : Nat), RepL K F vs ds → RepL K F (vs.take n) (ds.take n)
  | _, _, 0, _ => .nil
  | _, _, _ + 1, .nil => .nil
  | _, _, n + 1, .cons h r => .cons h (r.take n)
theorem RepL.drop {K : PySem.W.Frag} {F : Hp} : ∀ {vs : List V} {ds : List D} (n : Nat), RepL K F vs ds → RepL K F (vs.drop n) (ds.drop n)
  | _, _, 0, r => r
  | _, _, _ + 1, .nil => .nil
  | _, _, n + 1, .cons _ r => r.drop n
theorem RepL.set {K : PySem.W.Frag} {F : Hp} {v : V} {d : D} (h : Rep K F v d) : ∀ {vs : List V} {ds : List D} (n : Nat), RepL K F vs ds → RepL K F (vs.set n v) (ds.set n d)
  | _, _, _, .nil => .nil
  | _, _, 0, .cons _ r => .cons h r
  | _, _, n + 1, .cons g r => .cons g (r.set h n)
theorem RepL.eraseIdx {K : PySem.W.Frag} {F : Hp} : ∀ {vs : List V} {ds : List D} (n : Nat), RepL K F vs ds → RepL K F (vs.eraseIdx n) (ds.eraseIdx n)
  | _, _, _, .nil => .nil
  | _, _, 0, .cons _ r => r
  | _, _, n + 1, .cons g r => .cons g (r.eraseIdx n)
theorem RepL.ints {K : PySem.W.Frag} {F : Hp} : ∀ {vs : List V} {ns : List Int}, RepL K F vs (ns.map D.int) → vs = ns.map V.int
  | _, [], .nil => rfl
  | _, n :: ns, .cons h r => by cases h; rw [r.ints]; rfl
theorem RepL.of_ints {K : PySem.W.Frag} {F : Hp} : ∀ (ns : List Int), RepL K F (ns.map V.int) (ns.map D.int)
  | [] => .nil
  | n :: ns => .cons (.int n) (RepL.of_ints ns)

/-! ### slots -/
/-- an owned object: a list, a dict -/
inductive OV where
  | l (ds : List D)
  | d (t : Bool) (ks vs : List D)
inductive Sl where
  | no
  | val (d : D)
  /-- an owned object: no one else holds it -/
  | own (o : OV)
  /-- one lent by the caller -/
  | io (o : OV)
abbrev T := List Sl
def Sl.mut : Sl → Option OV
  | .own o => some o
  | .io o => some o
  | _ => none
inductive OwnO (K : PySem.W.Frag) (F : Hp) : OV → HO → Prop
  | l {ds : List D} {vs : List V} : RepL K F vs ds → OwnO K F (.l ds) (.lst vs)
  | dK {kvs : List (Key × V)} {ks ds : List D} : keysOf ks = some (kvs.map (·.1)) → RepL K F (kvs.map (·.2)) ds → OwnO K F (.d false ks ds) (.dK kvs)
  | dT {kvs : List (List Key × V)} {ks ds : List D} : keysTOf ks = some (kvs.map (·.1)) → RepL K F (kvs.map (·.2)) ds → OwnO K F (.d true ks ds) (.dT kvs)
theorem OwnO.mono {K : PySem.W.Frag} {F F' : Hp} {o : OV} {u : HO} (e : Sub F F') (h : OwnO K F o u) : OwnO K F' o u := by
  cases h with
  | l r => exact .l (r.mono e)
  | dK k r => exact .dK k (r.mono e)
  | dT k r => exact .dT k (r.mono e)

/-- what the frame may change (m), where its lent objects stand (ad) -/
structure MS where
  m : Addr → Prop
  ad : Nat → Addr
/-- M: what the frame may change. F: what is frozen -/
structure SRel (K : PySem.W.Frag) (M : MS) (F H : Hp) (σ : St) (τ : T) : Prop where
  len : τ.length ≤ σ.length
  up : ∀ a, H a = none → M.m a
  sub : Sub F H
  val : ∀ (i : Nat) (d : D), τ[i]? = some (Sl.val d) → ∃ v : V, σ[i]? = some (some v) ∧ Rep K F v d
  own : ∀ (i : Nat) (s : Sl) (o : OV), τ[i]? = some s → s.mut = some o → ∃ (a : Addr) (u : HO), σ[i]? = some (some (V.ref a)) ∧ H a = some u ∧ F a = none ∧ M.m a ∧ OwnO K F o u
  apart : ∀ (i j : Nat) (s t : Sl) (a : Addr), τ[i]? = some s → s.mut ≠ none → τ[j]? = some t → t.mut ≠ none → σ[i]? = some (some (V.ref a)) → σ[j]? = some (some (V.ref a)) → i = j
  io : ∀ (i : Nat) (o : OV), τ[i]? = some (Sl.io o) → σ[i]? = some (some (V.ref (M.ad i)))

structure Grow (M : MS) (F H F' H' : Hp) : Prop where
  there : ∀ a, H' a = none → H a = none
  frz : Sub F F'
  keep : ∀ a o, H a = some o → ¬ M.m a → H' a = some o
  free : ∀ a, F a = none → H a ≠ none → ¬ M.m a → F' a = none

theorem Grow.refl {M : MS} {F H : Hp} : Grow M F H F H := ⟨fun _ h => h, Sub.refl _, fun _ _ h _ => h, fun _ h _ _ => h⟩
theorem Grow.trans {M : MS} {F H F1 H1 F2 H2 : Hp} (a : Grow M F H F1 H1) (b : Grow M F1 H1 F2 H2) : Grow M F H F2 H2 where
  there := fun x h => a.there x (b.there x h)
  frz := a.frz.trans b.frz
  keep := fun x o h m => b.keep x o (a.keep x o h m) m
  free := fun x h e m => b.free x (a.free x h e m) (fun z => e (a.there x z)) m
theorem Grow.mono {M N : MS} {F H F' H' : Hp} (a : Grow M F H F' H') (h : ∀ x, M.m x → N.m x) : Grow N F H F' H' :=
  ⟨a.there, a.frz, fun x o e m => a.keep x o e fun z => m (h x z), fun x e e2 m => a.free x e e2 fun z => m (h x z)⟩

/-- an exception of an own class: which, its fields -/
structure Ex where
  c : Nat
  fs : List D
inductive Rs (α : Type) where
  | ok (a : α) (t : T)
  | exc (x : Ex) (t : T)
  | stuck
def Rs.bind {α β : Type} (m : Rs α) (f : α → T → Rs β) : Rs β := match m with
  | .ok a t => f a t
  | .exc x t => .exc x t
  | .stuck => .stuck

/-- what is wished of an exception: the wish of the context -/
abbrev EW := Ex → St → Hp → Prop
end U
end

section
set_option Elab.async false
set_option linter.all false
set_option maxRecDepth 100000
namespace U
open PySem PySem.Spec PyProof.Rows L2

/-- the program's exception classes: where each stands, its fields -/
structure PX where
  cls : Nat → Addr
  flds : Nat → List Str
/-- an exception's own dict -/
def XD (K : PySem.W.Frag) (px : PX) (F H : Hp) (x : Ex) (dd : Option Addr) : Prop :=
  (px.flds x.c = [] ∧ x.fs = [] ∧ dd = none) ∨ ∃ (d : Addr) (fs : List (Str × V)) (vs : List V), dd = some d ∧ H d = some (.xd fs) ∧ fs.map (·.2) = vs ∧ fs.map (·.1) = px.flds x.c ∧ RepL K F vs x.fs

/-- what is wanted behind a piece that ends so -/
def Post (K : PySem.W.Frag) (px : PX) (W : WX) (M : MS) (F H : Hp) (σ : St) {α : Type} : Rs α → (α → T → Hp → Hp → Prop) → Prop
  | .ok a τ', R => ∀ F' H', Grow M F H F' H' → SRel K M F' H' σ τ' → R a τ' F' H'
  | .exc x τ', _ => ∀ F' H', Grow M F H F' H' → SRel K M F' H' σ τ' → ∀ dd, XD K px F' H' x dd → W (.ref (px.cls x.c)) dd σ H'
  | .stuck, _ => False
section
variable {K : PySem.W.Frag} {px : PX} {W : WX} {M : MS} {F H F1 H1 : Hp} {σ : St} {τ : T} {α β : Type}
theorem Post.imp {m : Rs α} {R R' : α → T → Hp → Hp → Prop} (p : Post K px W M F H σ m R) (h : ∀ a τ' F' H', Grow M F H F' H' → SRel K M F' H' σ τ' → R a τ' F' H' → R' a τ' F' H') : Post K px W M F H σ m R' := by
  cases m with
  | ok a t => exact fun F' H' g s => h a t F' H' g s (p F' H' g s)
  | exc x t => exact p
  | stuck => exact p
theorem Post.from {m : Rs α} {R : α → T → Hp → Hp → Prop} (p : Post K px W M F H σ m R) (g : Grow M F H F1 H1) : Post K px W M F1 H1 σ m R := by
  cases m with
  | ok a t => exact fun F' H' g' s => p F' H' (g.trans g') s
  | exc x t => exact fun F' H' g' s => p F' H' (g.trans g') s
  | stuck => exact p
theorem Post.bind {m : Rs α} {k : α → T → Rs β} {R : β → T → Hp → Hp → Prop} (p : Post K px W M F H σ (m.bind k) R) : Post K px W M F H σ m (fun a τ' F' H' => Post K px W M F' H' σ (k a τ') R) := by
  cases m with
  | ok a t => exact fun F' H' g s => Post.from p g
  | exc x t => exact p
  | stuck => exact p
theorem Post.ok {a : α} {τ' : T} {R : α → T → Hp → Hp → Prop} (p : Post K px W M F H σ (.ok a τ') R) (s : SRel K M F H σ τ') : R a τ' F H := p F H .refl s
theorem Post.now {m : Rs α} {R : α → T → Hp → Hp → Prop} {a : α} {τ' : T} (p : Post K px W M F H σ m R) (e : m = .ok a τ') (s : SRel K M F H σ τ') : R a τ' F H := by
  subst e; exact p F H .refl s
/-- M may be smaller inside -/
theorem Post.less {N : MS} {m : Rs α} {R R' : α → T → Hp → Hp → Prop} (hN : ∀ a, N.m a → M.m a) (hs : ∀ τ' F' H', Grow N F H F' H' → SRel K N F' H' σ τ' → SRel K M F' H' σ τ') (p : Post K px W M F H σ m R)
    (h : ∀ a τ' F' H', Grow M F H F' H' → Grow N F H F' H' → SRel K N F' H' σ τ' → R a τ' F' H' → R' a τ' F' H') : Post K px W N F H σ m R' := by
  cases m with
  | ok a t => exact fun F' H' g s => h a t F' H' (g.mono hN) g s (p F' H' (g.mono hN) (hs t F' H' g s))
  | exc x t => exact fun F' H' g s => p F' H' (g.mono hN) (hs t F' H' g s)
  | stuck => exact p
end

/-! ### readings -/
def rdE (K : PySem.W.Frag) (px : PX) (W : WX) (f : T → Rs D) : TE := fun σ H Q => ∃ M F τ, SRel K M F H σ τ ∧ Post K px W M F H σ (f τ) fun d _ F' H' => ∀ v, Rep K F' v d → Q v H'
def rdT (K : PySem.W.Frag) (px : PX) (W : WX) (f : T → Rs Bool) : TT := fun σ H Q => ∃ M F τ, SRel K M F H σ τ ∧ Post K px W M F H σ (f τ) fun b _ _ H' => Q b H'
def rdA (K : PySem.W.Frag) (px : PX) (W : WX) (f : T → Rs (List D)) : TA := fun σ H Q => ∃ M F τ, SRel K M F H σ τ ∧ Post K px W M F H σ (f τ) fun ds _ F' H' => ∀ vs, RepL K F' vs ds → Q vs H'
/-- a new owned object -/
def OwnR (K : PySem.W.Frag) (M : MS) (F H : Hp) (σ : St) (τ : T) (v : V) (o : OV) : Prop :=
  ∃ a u, v = .ref a ∧ H a = some u ∧ F a = none ∧ M.m a ∧ OwnO K F o u ∧ ∀ (i : Nat) (s : Sl), τ[i]? = some s → s.mut ≠ none → σ[i]? ≠ some (some (V.ref a))
def rdO (K : PySem.W.Frag) (px : PX) (W : WX) (f : T → Rs OV) : TE := fun σ H Q => ∃ M F τ, SRel K M F H σ τ ∧ Post K px W M F H σ (f τ) fun o τ' F' H' => ∀ v, OwnR K M F' H' σ τ' v o → Q v H'

/-- the context of a proof: X stands for the pieces, W is what it wishes of exceptions -/
def JE (px : PX) (W : WX) (X : Cx) (e : Expr) (f : T → Rs D) : Prop := PE X e (rdE X.K px W f)
def JT (px : PX) (W : WX) (X : Cx) (e : Expr) (f : T → Rs Bool) : Prop := PT X e (rdT X.K px W f)
def JA (px : PX) (W : WX) (X : Cx) (es : List Expr) (f : T → Rs (List D)) : Prop := PA X es (rdA X.K px W f)
def JO (px : PX) (W : WX) (X : Cx) (e : Expr) (f : T → Rs OV) : Prop := PE X e (rdO X.K px W f)

theorem PE.imp {X : Cx} {e : Expr} {t t' : TE} (h : PE X e t) (i : ∀ σ H Q, t' σ H Q → t σ H Q) : PE X e t' := ⟨fun pins s σ H Q I q => h.run pins s σ H Q I (i _ _ _ q)⟩
theorem PT.imp {X : Cx} {e : Expr} {t t' : TT} (h : PT X e t) (i : ∀ σ H Q, t' σ H Q → t σ H Q) : PT X e t' := ⟨fun pins s σ H Q I q => h.run pins s σ H Q I (i _ _ _ q)⟩
theorem PA.imp {X : Cx} {e : List Expr} {t t' : TA} (h : PA X e t) (i : ∀ σ H Q, t' σ H Q → t σ H Q) : PA X e t' := ⟨fun p pins s σ H Q I q => h.run p pins s σ H Q I (i _ _ _ q)⟩

section
variable {K : PySem.W.Frag} {px : PX} {W : WX} {M : MS} {F H F1 H1 : Hp} {σ : St} {τ : T}
/-- one operand, then the rest -/
theorem rdE_bind {α : Type} {fa : T → Rs D} {k : D → T → Rs α} {R : α → T → Hp → Hp → Prop} {Q : VK} (s : SRel K M F H σ τ) (p : Post K px W M F H σ ((fa τ).bind k) R)
    (h : ∀ d τ1 F1 H1 v, Grow M F H F1 H1 → SRel K M F1 H1 σ τ1 → Rep K F1 v d → Post K px W M F1 H1 σ (k d τ1) R → Q v H1) : rdE K px W fa σ H Q :=
  ⟨M, F, τ, s, p.bind.imp fun d τ1 F1 H1 g s1 q v r => h d τ1 F1 H1 v g s1 r q⟩
theorem rdT_bind {α : Type} {fa : T → Rs Bool} {k : Bool → T → Rs α} {R : α → T → Hp → Hp → Prop} {Q : Bool → Hp → Prop} (s : SRel K M F H σ τ) (p : Post K px W M F H σ ((fa τ).bind k) R)
    (h : ∀ d τ1 F1 H1, Grow M F H F1 H1 → SRel K M F1 H1 σ τ1 → Post K px W M F1 H1 σ (k d τ1) R → Q d H1) : rdT K px W fa σ H Q :=
  ⟨M, F, τ, s, p.bind.imp fun d τ1 F1 H1 g s1 q => h d τ1 F1 H1 g s1 q⟩
theorem rdA_bind {α : Type} {fa : T → Rs (List D)} {k : List D → T → Rs α} {R : α → T → Hp → Hp → Prop} {Q : List V → Hp → Prop} (s : SRel K M F H σ τ) (p : Post K px W M F H σ ((fa τ).bind k) R)
    (h : ∀ ds τ1 F1 H1 vs, Grow M F H F1 H1 → SRel K M F1 H1 σ τ1 → RepL K F1 vs ds → Post K px W M F1 H1 σ (k ds τ1) R → Q vs H1) : rdA K px W fa σ H Q :=
  ⟨M, F, τ, s, p.bind.imp fun d τ1 F1 H1 g s1 q v r => h d τ1 F1 H1 v g s1 r q⟩
theorem rdO_bind {α : Type} {fa : T → Rs OV} {k : OV → T → Rs α} {R : α → T → Hp → Hp → Prop} {Q : VK} (s : SRel K M F H σ τ) (p : Post K px W M F H σ ((fa τ).bind k) R)
    (h : ∀ o τ1 F1 H1 v, Grow M F H F1 H1 → SRel K M F1 H1 σ τ1 → OwnR K M F1 H1 σ τ1 v o → Post K px W M F1 H1 σ (k o τ1) R → Q v H1) : rdO K px W fa σ H Q :=
  ⟨M, F, τ, s, p.bind.imp fun d τ1 F1 H1 g s1 q v r => h d τ1 F1 H1 v g s1 r q⟩

/-! ### the heap grows: a new frozen object -/
theorem SRel.new {p : Addr} {o : HO} (s : SRel K M F H σ τ) (hp : H p = none) : F p = none := by
  cases e : F p with
  | none => rfl
  | some u => rw [s.sub p u e] at hp; cases hp
theorem grow_new {p : Addr} {o : HO} (hp : H p = none) (hf : F p = none) : Grow M F H (upd F p o) (upd H p o) where
  there := fun a e => by
    by_cases h : a = p
    · rw [h, upd_same] at e; cases e
    · rw [upd_ne h] at e; exact e
  frz := Sub.upd hf
  keep := fun a u e _ => by rw [upd_ne (ne_of_none e hp)]; exact e
  free := fun a e n _ => by
    by_cases h : a = p
    · subst h; exact absurd hp n
    · rw [upd_ne h]; exact e
theorem SRel.lay {p : Addr} {o : HO} (s : SRel K M F H σ τ) (hp : H p = none) : SRel K M (upd F p o) (upd H p o) σ τ := by
  have hf : F p = none := s.new (o := o) hp
  refine ⟨s.len, fun a e => ?_, fun a u e => ?_, fun i d e => ?_, fun i sl ov e1 e2 => ?_, s.apart, s.io⟩
  · by_cases h : a = p
    · rw [h, upd_same] at e; cases e
    · rw [upd_ne h] at e; exact s.up a e
  · by_cases h : a = p
    · rw [h, upd_same] at e ⊢; exact e
    · rw [upd_ne h] at e ⊢; exact s.sub a u e
  · obtain ⟨v, e1, r⟩ := s.val i d e
    exact ⟨v, e1, r.mono (Sub.upd hf)⟩
  · obtain ⟨a, u, h1, h2, h3, h4, h5⟩ := s.own i sl ov e1 e2
    have ne : a ≠ p := ne_of_none h2 hp
    exact ⟨a, u, h1, by rw [upd_ne ne]; exact h2, by rw [upd_ne ne]; exact h3, h4, h5.mono (Sub.upd hf)⟩
/-- a new object that is not frozen -/
theorem grow_alloc {p : Addr} {o : HO} (hp : H p = none) : Grow M F H F (upd H p o) where
  there := fun a e => by
    by_cases h : a = p
    · rw [h, upd_same] at e; cases e
    · rw [upd_ne h] at e; exact e
  frz := Sub.refl _
  keep := fun a u e _ => by rw [upd_ne (ne_of_none e hp)]; exact e
  free := fun a e _ _ => e
theorem SRel.alloc {p : Addr} {o : HO} (s : SRel K M F H σ τ) (hp : H p = none) : SRel K M F (upd H p o) σ τ := by
  refine ⟨s.len, fun a e => ?_, fun a u e => ?_, s.val, fun i sl ov e1 e2 => ?_, s.apart, s.io⟩
  · by_cases h : a = p
    · rw [h, upd_same] at e; cases e
    · rw [upd_ne h] at e; exact s.up a e
  · rw [upd_ne (ne_of_none (s.sub a u e) hp)]; exact s.sub a u e
  · obtain ⟨a, u, h1, h2, h3, h4, h5⟩ := s.own i sl ov e1 e2
    exact ⟨a, u, h1, by rw [upd_ne (ne_of_none h2 hp)]; exact h2, h3, h4, h5⟩
theorem SRel.fresh_own {p : Addr} {u : HO} {o : OV} (s : SRel K M F H σ τ) (hp : H p = none) (h : OwnO K F o u) : OwnR K M F (upd H p u) σ τ (.ref p) o :=
  ⟨p, u, rfl, upd_same, s.new (o := u) hp, s.up p hp, h, fun i sl e m z => by
    cases q : sl.mut with
    | none => exact m q
    | some ov =>
      obtain ⟨a, w, h1, h2, _⟩ := s.own i sl ov e q
      rw [h1] at z
      cases z
      rw [hp] at h2; cases h2⟩
end
end U
end

section
set_option Elab.async false
set_option linter.all false
set_option maxRecDepth 100000
namespace U
open PySem PySem.Spec PyProof.Rows L2

def OV.toD : OV → D
  | .l ds => .lst ds
  | .d t ks vs => .dct t ks vs
/-- new frozen objects, nothing else -/
structure New (F H F' H' : Hp) : Prop where
  keep : Sub H H'
  frz : Sub F F'
  sub : Sub F' H'
  free : ∀ a, F a = none → H a ≠ none → F' a = none
section
variable {K : PySem.W.Frag} {px : PX} {W : WX} {M : MS} {F H F1 H1 F2 H2 : Hp} {σ : St} {τ : T}
theorem New.refl (h : Sub F H) : New F H F H := ⟨Sub.refl _, Sub.refl _, h, fun _ e _ => e⟩
theorem New.trans (a : New F H F1 H1) (b : New F1 H1 F2 H2) : New F H F2 H2 :=
  ⟨a.keep.trans b.keep, a.frz.trans b.frz, b.sub, fun x e n => b.free x (a.free x e n) fun z => by
    cases q : H x with
    | none => exact n q
    | some o => rw [a.keep x o q] at z; cases z⟩
theorem none_of_sub {F H : Hp} {p : Addr} (h : Sub F H) (e : H p = none) : F p = none := by
  cases q : F p with
  | none => rfl
  | some o => rw [h p o q] at e; cases e
theorem New.lay {p : Addr} {o : HO} (h : Sub F H) (hp : H p = none) : New F H (upd F p o) (upd H p o) where
  keep := Sub.upd hp
  frz := Sub.upd (none_of_sub h hp)
  sub := fun a u e => by
    by_cases q : a = p
    · rw [q, upd_same] at e ⊢; exact e
    · rw [upd_ne q] at e ⊢; exact h a u e
  free := fun a e n => by
    by_cases q : a = p
    · subst q; exact absurd hp n
    · rw [upd_ne q]; exact e
/-- .. of an object that is not frozen as yet -/
theorem New.alloc {p : Addr} {o : HO} (h : Sub F H) (hp : H p = none) : New F H F (upd H p o) where
  keep := Sub.upd hp
  frz := Sub.refl _
  sub := fun a u e => (Sub.upd hp) a u (h a u e)
  free := fun a e _ => e
theorem New.grow (n : New F H F1 H1) : Grow M F H F1 H1 where
  there := fun a e => none_of_sub n.keep e
  frz := n.frz
  keep := fun a o e _ => n.keep a o e
  free := fun a e x _ => n.free a e x
theorem New.srel (n : New F H F1 H1) (s : SRel K M F H σ τ) : SRel K M F1 H1 σ τ := by
  refine ⟨s.len, fun a e => s.up a (none_of_sub n.keep e), n.sub, fun i d e => ?_, fun i sl ov e1 e2 => ?_, s.apart, s.io⟩
  · obtain ⟨v, e1, r⟩ := s.val i d e
    exact ⟨v, e1, r.mono n.frz⟩
  · obtain ⟨a, u, h1, h2, h3, h4, h5⟩ := s.own i sl ov e1 e2
    exact ⟨a, u, h1, n.keep _ _ h2, n.free a h3 (by rw [h2]; exact fun z => nomatch z), h4, h5.mono n.frz⟩

/-- v is now d: frozen, or an owned object as it stands -/
def Now (K : PySem.W.Frag) (F H : Hp) (v : V) (d : D) : Prop := Rep K F v d ∨ ∃ a u o, v = .ref a ∧ H a = some u ∧ OwnO K F o u ∧ d = o.toD
inductive NowL (K : PySem.W.Frag) (F H : Hp) : List V → List D → Prop
  | nil : NowL K F H [] []
  | cons {v : V} {vs : List V} {d : D} {ds : List D} : Now K F H v d → NowL K F H vs ds → NowL K F H (v :: vs) (d :: ds)
theorem Now.of (h : Rep K F v d) : Now K F H v d := .inl h
theorem NowL.of : ∀ {vs : List V} {ds : List D}, RepL K F vs ds → NowL K F H vs ds
  | _, _, .nil => .nil
  | _, _, .cons h r => .cons (.inl h) (NowL.of r)
theorem Now.lst {v : V} {ds : List D} (h : Now K F H v (.lst ds)) (s : Sub F H) : ∃ a vs, v = .ref a ∧ H a = some (.lst vs) ∧ RepL K F vs ds := by
  rcases h with h | ⟨a, u, o, rfl, hu, ho, e⟩
  · cases h with
    | lst q r => exact ⟨_, _, rfl, s _ _ q, r⟩
  · cases ho with
    | l r => cases e; exact ⟨a, _, rfl, hu, r⟩
    | dK _ _ => cases e
    | dT _ _ => cases e
theorem Now.tup {v : V} {ds : List D} (h : Now K F H v (.tup ds)) (s : Sub F H) : ∃ a vs, v = .ref a ∧ H a = some (.tup vs) ∧ RepL K F vs ds := by
  rcases h with h | ⟨a, u, o, rfl, hu, ho, e⟩
  · cases h with
    | tup q r => exact ⟨_, _, rfl, s _ _ q, r⟩
  · cases ho <;> cases e
theorem Now.int {v : V} {i : Int} (h : Now K F H v (.int i)) : v = .int i := by
  rcases h with h | ⟨a, u, o, rfl, hu, ho, e⟩
  · cases h; rfl
  · cases ho <;> cases e
theorem Now.str {v : V} {x : List Nat} (h : Now K F H v (.str x)) : v = .str (stO x) := by
  rcases h with h | ⟨a, u, o, rfl, hu, ho, e⟩
  · cases h; rfl
  · cases ho <;> cases e
theorem Now.bl {v : V} {b : Bool} (h : Now K F H v (.bl b)) : v = .bl b := by
  rcases h with h | ⟨a, u, o, rfl, hu, ho, e⟩
  · cases h; rfl
  · cases ho <;> cases e
theorem Now.non {v : V} (h : Now K F H v .non) : v = .non := by
  rcases h with h | ⟨a, u, o, rfl, hu, ho, e⟩
  · cases h; rfl
  · cases ho <;> cases e
end

/-- what a primitive hands back -/
inductive PR where
  | d (d : D)
  | o (o : OV)
def PR.toD : PR → D
  | .d z => z
  | .o z => z.toD
/-- the wish about a primitive's result -/
def PW (K : PySem.W.Frag) (F H : Hp) (r : PR) (Q : VK) : Prop := match r with
  | .d d => ∀ v F' H', New F H F' H' → Rep K F' v d → Q v H'
  | .o o => ∀ p u F' H', New F H F' H' → H' p = none → OwnO K F' o u → Q (.ref p) (upd H' p u)
def r2 (K : PySem.W.Frag) (g : D → D → Option PR) : R2 := fun x y H Q => ∃ F d e r, Sub F H ∧ Now K F H x d ∧ Now K F H y e ∧ g d e = some r ∧ PW K F H r Q
def r1 (K : PySem.W.Frag) (g : D → Option PR) : V → Hp → VK → Prop := fun x H Q => ∃ F d r, Sub F H ∧ Now K F H x d ∧ g d = some r ∧ PW K F H r Q
def rC (K : PySem.W.Frag) (g : List D → Option PR) : List V → Hp → VK → Prop := fun xs H Q => ∃ F ds r, Sub F H ∧ NowL K F H xs ds ∧ g ds = some r ∧ PW K F H r Q
def rM (K : PySem.W.Frag) (g : D → List D → Option PR) : V → List V → Hp → VK → Prop := fun x xs H Q => ∃ F d ds r, Sub F H ∧ Now K F H x d ∧ NowL K F H xs ds ∧ g d ds = some r ∧ PW K F H r Q

section
variable {K : PySem.W.Frag} {F H : Hp} {Q : VK}
theorem PW.scal {d : D} {v : V} (s : Sub F H) (p : PW K F H (.d d) Q) (r : Rep K F v d) : Q v H := p v F H (.refl s) r
theorem PW.lst {ds : List D} {vs : List V} (s : Sub F H) (p : PW K F H (.o (.l ds)) Q) (r : RepL K F vs ds) : ∀ l, H l = none → Q (.ref l) (upd H l (.lst vs)) :=
  fun l hl => p l _ F H (.refl s) hl (.l r)
theorem PW.tup {ds : List D} {vs : List V} (s : Sub F H) (p : PW K F H (.d (.tup ds)) Q) (r : RepL K F vs ds) : ∀ l, H l = none → Q (.ref l) (upd H l (.tup vs)) :=
  fun l hl => p (.ref l) _ _ (.lay s hl) (.tup upd_same (r.mono (Sub.upd (none_of_sub s hl))))
end

/-! ### ints -/
section
variable {X : Cx}
def gInt (c : Int → Int → Bool) (f : Int → Int → Int) : D → D → Option PR
  | .int i, .int j => if c i j then some (.d (.int (f i j))) else none
  | _, _ => none
theorem gInt_some {c : Int → Int → Bool} {f : Int → Int → Int} {d e : D} {r : PR} (h : gInt c f d e = some r) : ∃ i j, d = .int i ∧ e = .int j ∧ c i j = true ∧ r = .d (.int (f i j)) := by
  cases d with
  | int i => cases e with
    | int j =>
      have h : (if c i j = true then some (PR.d (D.int (f i j))) else none) = some r := h
      by_cases q : c i j = true
      · rw [if_pos q] at h; exact ⟨i, j, rfl, rfl, q, (Option.some.inj h).symm⟩
      · rw [if_neg q] at h; cases h
    | _ => cases h
  | _ => cases h
theorem op_int {g : Value → Value → Sem Value} {C : Int → Int → Prop} {c : Int → Int → Bool} {f : Int → Int → Int} (h : OpR X g (rI C fun i j => .int (f i j))) (hc : ∀ i j, c i j = true → C i j) : OpR X g (r2 X.K (gInt c f)) := by
  intro pins s σ H x y v u Q I rx ry ⟨F, d, e, r, sb, nx, ny, hg, pw⟩
  obtain ⟨i, j, rfl, rfl, hcc, rfl⟩ := gInt_some hg
  exact h pins s σ H x y v u Q I rx ry ⟨i, j, nx.int, ny.int, hc i j hcc, pw.scal sb (.int _)⟩
theorem op_int0 {g : Value → Value → Sem Value} {f : Int → Int → Int} (h : OpR X g (rI0 fun i j => .int (f i j))) : OpR X g (r2 X.K (gInt (fun _ _ => true) f)) := by
  intro pins s σ H x y v u Q I rx ry ⟨F, d, e, r, sb, nx, ny, hg, pw⟩
  obtain ⟨i, j, rfl, rfl, hcc, rfl⟩ := gInt_some hg
  exact h pins s σ H x y v u Q I rx ry ⟨i, j, nx.int, ny.int, pw.scal sb (.int _)⟩
/-- products: one factor short, or both of few bits -/
def cMul (i j : Int) : Bool := decide (i.natAbs < 2 ^ 64) || decide (j.natAbs < 2 ^ 64) || decide (i.natAbs.log2 + j.natAbs.log2 < 1000000)
theorem cMul_ok {i j : Int} (h : cMul i j = true) : CMul i j ∨ CMulW i j := by
  unfold cMul at h
  simp only [Bool.or_eq_true, decide_eq_true_eq] at h
  rcases h with (h | h) | h
  · exact .inl (.inl (by omega))
  · exact .inl (.inr (by omega))
  · exact .inr h
theorem op_mulD : OpR X (binaryOp .Mult) (r2 X.K (gInt cMul fun i j => i * j)) := by
  intro pins s σ H x y v u Q I rx ry ⟨F, d, e, r, sb, nx, ny, hg, pw⟩
  obtain ⟨i, j, rfl, rfl, hcc, rfl⟩ := gInt_some hg
  rcases cMul_ok hcc with c | c
  · exact op_mul pins s σ H x y v u Q I rx ry ⟨i, j, nx.int, ny.int, c, pw.scal sb (.int _)⟩
  · exact op_mulW pins s σ H x y v u Q I rx ry ⟨i, j, nx.int, ny.int, c, pw.scal sb (.int _)⟩
def cDiv (_ j : Int) : Bool := decide (0 < j) && decide (j.natAbs.log2 < 9000)
theorem op_divD : OpR X (binaryOp .FloorDiv) (r2 X.K (gInt cDiv fun i j => i / j)) := op_int op_fdivW fun i j h => by
  unfold cDiv at h; simp only [Bool.and_eq_true, decide_eq_true_eq] at h; exact h
theorem op_modD : OpR X (binaryOp .Mod) (r2 X.K (gInt (fun _ j => decide (0 < j)) fun i j => i % j)) := op_int op_mod fun i j h => by simpa using h
def cPow (i j : Int) : Bool := decide (0 ≤ j) && decide (j ≤ 1000) && decide (i.natAbs < 2 ^ 64)
theorem op_powD : OpR X (binaryOp .Pow) (r2 X.K (gInt cPow fun i j => i ^ j.toNat)) := op_int op_pow fun i j h => by
  unfold cPow at h; simp only [Bool.and_eq_true, decide_eq_true_eq] at h
  refine ⟨h.1.1, ?_, h.2⟩
  have := h.1.2
  omega
theorem op_addI : OpR X (binaryOp .Add) (r2 X.K (gInt (fun _ _ => true) fun i j => i + j)) := op_int0 op_add
theorem op_subI : OpR X (binaryOp .Sub) (r2 X.K (gInt (fun _ _ => true) fun i j => i - j)) := op_int0 op_sub
end
end U
end

section
set_option Elab.async false
set_option linter.all false
set_option maxRecDepth 100000
namespace U
open PySem PySem.Spec PyProof.Rows L2

/-! ### D as the library's data -/
mutual
def D.py : D → PyData
  | .non => .none
  | .bl b => .bool b
  | .int i => .int i
  | .str x => .str (stO x)
  | .tup xs => .tuple (D.pyL xs)
  | .lst xs => .list (D.pyL xs)
  | .dct _ _ _ => .dict []
  | .exc _ _ => .dict []
  | .scr _ => .dict []
def D.pyL : List D → List PyData
  | [] => []
  | d :: ds => d.py :: D.pyL ds
end

mutual
def D.ok : D → Nat → Bool
  | .non, _ => true
  | .bl _, _ => true
  | .int _, _ => true
  | .str x, _ => x.all (· < 0x110000)
  | .tup xs, n => match n with
    | 0 => false
    | n + 1 => D.okL xs n
  | .lst xs, n => match n with
    | 0 => false
    | n + 1 => D.okL xs n
  | .dct _ _ _, _ => false
  | .exc _ _, _ => false
  | .scr _, _ => false
def D.okL : List D → Nat → Bool
  | [], _ => true
  | d :: ds, n => d.ok n && D.okL ds n
end
mutual
theorem D.ok_lay : ∀ (d : D) (n : Nat), d.ok n = true → d.py.canLay0 = true ∧ d.py.depth ≤ n
  | .non, _, _ => ⟨by simp [D.py, PyData.canLay0], by simp [D.py, PyData.depth]⟩
  | .bl _, _, _ => ⟨by simp [D.py, PyData.canLay0], by simp [D.py, PyData.depth]⟩
  | .int _, _, _ => ⟨by simp [D.py, PyData.canLay0], by simp [D.py, PyData.depth]⟩
  | .str x, _, h => by
    refine ⟨?_, by simp [D.py, PyData.depth]⟩
    simp only [D.py, PyData.canLay0]
    show (stO x).cps.all _ = true
    simpa [D.ok] using h
  | .tup xs, 0, h => by simp [D.ok] at h
  | .lst xs, 0, h => by simp [D.ok] at h
  | .tup xs, n + 1, h => by
    obtain ⟨a, b⟩ := D.okL_lay xs n (by simpa [D.ok] using h)
    exact ⟨by simpa [D.py, PyData.canLay0] using a, by simp only [D.py, PyData.depth]; omega⟩
  | .lst xs, n + 1, h => by
    obtain ⟨a, b⟩ := D.okL_lay xs n (by simpa [D.ok] using h)
    exact ⟨by simpa [D.py, PyData.canLay0] using a, by simp only [D.py, PyData.depth]; omega⟩
  | .dct _ _ _, _, h => by simp [D.ok] at h
  | .exc _ _, _, h => by simp [D.ok] at h
  | .scr _, _, h => by simp [D.ok] at h
theorem D.okL_lay : ∀ (ds : List D) (n : Nat), D.okL ds n = true → PyData.canLayAll0 (D.pyL ds) = true ∧ PyData.depthAll (D.pyL ds) ≤ n
  | [], _, _ => ⟨by simp [D.pyL, PyData.canLayAll0], by simp [D.pyL, PyData.depthAll]⟩
  | d :: ds, n, h => by
    simp only [D.okL, Bool.and_eq_true] at h
    obtain ⟨a, b⟩ := D.ok_lay d n h.1
    obtain ⟨a', b'⟩ := D.okL_lay ds n h.2
    exact ⟨by simp [D.pyL, PyData.canLayAll0, a, a'], by simp only [D.pyL, PyData.depthAll]; omega⟩
end
theorem D.ok_shaped {d : D} (h : d.ok 60 = true) : SeqAt.shaped d.py = true := by
  obtain ⟨a, b⟩ := D.ok_lay d 60 h
  show (d.py.canLay0 && decide (d.py.depth ≤ 64)) = true
  rw [a, decide_eq_true (by omega)]; rfl
section
variable {K : PySem.W.Frag} {F H : Hp}
mutual
theorem Rep.dp (s : Sub F H) : ∀ {v : V} {d : D} {n : Nat}, Rep K F v d → d.ok n = true → Dp K H v d.py
  | _, _, _, .non, _ => by simp only [D.py]; exact .non
  | _, _, _, .bl b, _ => by simp only [D.py]; exact .bl b
  | _, _, _, .int i, _ => by simp only [D.py]; exact .int i
  | _, _, _, .str x, _ => by simp only [D.py]; exact .str _
  | _, _, 0, .tup q r, h => by simp [D.ok] at h
  | _, _, 0, .lst q r, h => by simp [D.ok] at h
  | _, _, n + 1, .tup q r, h => by simp only [D.py]; exact .tup (.inl (.inl (s _ _ q))) (RepL.dp s r (n := n) (by simpa [D.ok] using h))
  | _, _, n + 1, .lst q r, h => by simp only [D.py]; exact .lst (.inl (.inl (s _ _ q))) (RepL.dp s r (n := n) (by simpa [D.ok] using h))
  | _, _, _, .dK _ _ _, h => by simp [D.ok] at h
  | _, _, _, .dT _ _ _, h => by simp [D.ok] at h
  | _, _, _, .scr _, h => by simp [D.ok] at h
theorem RepL.dp (s : Sub F H) : ∀ {vs : List V} {ds : List D} {n : Nat}, RepL K F vs ds → D.okL ds n = true → DpAll K H vs (D.pyL ds)
  | _, _, _, .nil, _ => by simp only [D.pyL]; exact .nil
  | _, _, n, .cons h r, e => by
    simp only [D.okL, Bool.and_eq_true] at e
    simp only [D.pyL]
    exact .cons (Rep.dp s h e.1) (RepL.dp s r e.2)
end
theorem Now.dp (s : Sub F H) {v : V} {d : D} {n : Nat} (h : Now K F H v d) (e : d.ok n = true) : Dp K H v d.py := by
  rcases h with h | ⟨a, u, o, rfl, hu, ho, rfl⟩
  · exact h.dp s e
  · cases ho with
    | l r => cases n with
      | zero => simp [OV.toD, D.ok] at e
      | succ n => simp only [OV.toD, D.py]; exact .lst (.inl (.inl hu)) (RepL.dp s r (n := n) (by simpa [OV.toD, D.ok] using e))
    | dK _ _ => simp [OV.toD, D.ok] at e
    | dT _ _ => simp [OV.toD, D.ok] at e
end

/-! ### == -/
mutual
def D.eqb : D → D → Bool
  | .non, e => match e with | .non => true | _ => false
  | .bl a, e => match e with | .bl b => a == b | .int j => (if a then 1 else 0) == j | _ => false
  | .int i, e => match e with | .int j => i == j | .bl b => i == (if b then 1 else 0) | _ => false
  | .str x, e => match e with | .str y => x == y | _ => false
  | .tup xs, e => match e with | .tup ys => D.eqbL xs ys | _ => false
  | .lst xs, e => match e with | .lst ys => D.eqbL xs ys | _ => false
  | .dct _ _ _, _ => false
  | .exc _ _, _ => false
  | .scr _, _ => false
def D.eqbL : List D → List D → Bool
  | [], es => match es with | [] => true | _ => false
  | d :: ds, es => match es with | e :: es => d.eqb e && D.eqbL ds es | [] => false
end
theorem stO_beq (x y : List Nat) : (stO x == stO y) = (x == y) := by
  by_cases h : x = y
  · subst h; simp
  · have h2 : ¬ stO x = stO y := fun e => h (by
      have := congrArg (fun z : Str => z.cps.toList) e
      simpa using this)
    rw [beq_eq_false_iff_ne.mpr h, beq_eq_false_iff_ne.mpr h2]
mutual
theorem D.eqv_py : ∀ (d e : D), PyData.eqv d.py e.py = d.eqb e
  | .non, e => by cases e <;> simp [D.py, PyData.eqv, D.eqb]
  | .bl a, e => by cases e <;> simp [D.py, PyData.eqv, D.eqb]
  | .int i, e => by cases e <;> simp [D.py, PyData.eqv, D.eqb]
  | .str x, e => by cases e <;> simp only [D.py, PyData.eqv, D.eqb]; exact stO_beq _ _
  | .tup xs, e => by cases e <;> simp only [D.py, PyData.eqv, D.eqb]; exact D.eqv_pyL _ _
  | .lst xs, e => by cases e <;> simp only [D.py, PyData.eqv, D.eqb]; exact D.eqv_pyL _ _
  | .dct _ _ _, e => by cases e <;> simp [D.py, PyData.eqv, D.eqb]
  | .exc _ _, e => by cases e <;> simp [D.py, PyData.eqv, D.eqb]
  | .scr _, e => by cases e <;> simp [D.py, PyData.eqv, D.eqb]
theorem D.eqv_pyL : ∀ (ds es : List D), PyData.eqvAll (D.pyL ds) (D.pyL es) = D.eqbL ds es
  | [], es => by cases es <;> simp [D.pyL, PyData.eqvAll, D.eqbL]
  | d :: ds, [] => by simp [D.pyL, PyData.eqvAll, D.eqbL]
  | d :: ds, e :: es => by simp only [D.pyL, PyData.eqvAll, D.eqbL, D.eqv_py d e, D.eqv_pyL ds es]
end
def gEq (neg : Bool) (d e : D) : Option PR := if d.ok 60 && e.ok 60 then some (.d (.bl (neg != d.eqb e))) else none
section
variable {X : Cx}
theorem op_eqU (hu : X.A.units + 64 < cLine) : OpR X (compareOp .Eq) (r2 X.K (gEq false)) := by
  intro pins s σ H x y v u Q I rx ry ⟨F, d, e, r, sb, nx, ny, hg, pw⟩
  unfold gEq at hg
  by_cases c : (d.ok 60 && e.ok 60) = true
  · rw [if_pos c] at hg
    cases hg
    rw [Bool.and_eq_true] at c
    refine op_eqD hu pins s σ H x y v u Q I rx ry ⟨d.py, e.py, nx.dp sb c.1, ny.dp sb c.2, D.ok_shaped c.1, D.ok_shaped c.2, ?_⟩
    rw [D.eqv_py]
    have := pw.scal sb (.bl _)
    simpa using this
  · rw [if_neg c] at hg; cases hg
theorem op_neU (hu : X.A.units + 64 < cLine) : OpR X (compareOp .NotEq) (r2 X.K (gEq true)) := by
  intro pins s σ H x y v u Q I rx ry ⟨F, d, e, r, sb, nx, ny, hg, pw⟩
  unfold gEq at hg
  by_cases c : (d.ok 60 && e.ok 60) = true
  · rw [if_pos c] at hg
    cases hg
    rw [Bool.and_eq_true] at c
    refine op_neD hu pins s σ H x y v u Q I rx ry ⟨d.py, e.py, nx.dp sb c.1, ny.dp sb c.2, D.ok_shaped c.1, D.ok_shaped c.2, ?_⟩
    rw [D.eqv_py]
    have := pw.scal sb (.bl _)
    simpa using this
  · rw [if_neg c] at hg; cases hg
end

/-! ### < of data that are alike -/
mutual
def D.like : D → D → Bool
  | .non, e => match e with | .non => true | _ => false
  | .bl _, e => match e with | .bl _ => true | _ => false
  | .int _, e => match e with | .int _ => true | _ => false
  | .str _, e => match e with | .str _ => true | _ => false
  | .tup xs, e => match e with | .tup ys => D.likeL xs ys | _ => false
  | .lst xs, e => match e with | .lst ys => D.likeL xs ys | _ => false
  | .dct _ _ _, _ => false
  | .exc _ _, _ => false
  | .scr _, _ => false
def D.likeL : List D → List D → Bool
  | [], _ => true
  | d :: ds, es => match es with | e :: es => d.like e && D.likeL ds es | [] => true
end
mutual
theorem D.like_py : ∀ (d e : D), d.like e = true → PySem.W.alike d.py e.py = true
  | .non, e, h => by cases e <;> first | (simp [D.like] at h; done) | simp [D.py, PySem.W.alike]
  | .bl a, e, h => by cases e <;> first | (simp [D.like] at h; done) | simp [D.py, PySem.W.alike]
  | .int i, e, h => by cases e <;> first | (simp [D.like] at h; done) | simp [D.py, PySem.W.alike]
  | .str x, e, h => by cases e <;> first | (simp [D.like] at h; done) | simp [D.py, PySem.W.alike]
  | .tup xs, e, h => by
    cases e <;> first | (simp [D.like] at h; done) | skip
    simp only [D.py, PySem.W.alike]; exact D.like_pyL _ _ (by simpa [D.like] using h)
  | .lst xs, e, h => by
    cases e <;> first | (simp [D.like] at h; done) | skip
    simp only [D.py, PySem.W.alike]; exact D.like_pyL _ _ (by simpa [D.like] using h)
  | .dct _ _ _, e, h => by simp [D.like] at h
  | .exc _ _, e, h => by simp [D.like] at h
  | .scr _, e, h => by simp [D.like] at h
theorem D.like_pyL : ∀ (ds es : List D), D.likeL ds es = true → PySem.W.alikeAll (D.pyL ds) (D.pyL es) = true
  | [], es, _ => by simp [D.pyL, PySem.W.alikeAll]
  | d :: ds, [], _ => by simp [D.pyL, PySem.W.alikeAll]
  | d :: ds, e :: es, h => by
    simp only [D.likeL, Bool.and_eq_true] at h
    simp only [D.pyL, PySem.W.alikeAll, D.like_py d e h.1, D.like_pyL ds es h.2, Bool.and_self]
end
mutual
def D.lt : D → D → Bool
  | .non, _ => false
  | .bl a, e => match e with | .bl b => !a && b | _ => false
  | .int i, e => match e with | .int j => decide (i < j) | _ => false
  | .str x, e => match e with | .str y => decide (x < y) | _ => false
  | .tup xs, e => match e with | .tup ys => D.ltL xs ys | _ => false
  | .lst xs, e => match e with | .lst ys => D.ltL xs ys | _ => false
  | .dct _ _ _, _ => false
  | .exc _ _, _ => false
  | .scr _, _ => false
def D.ltL : List D → List D → Bool
  | [], es => match es with | [] => false | _ => true
  | d :: ds, es => match es with | e :: es => if d.eqb e then D.ltL ds es else d.lt e | [] => false
end
theorem toks_nil_cons (x : PyData) (xs : List PyData) : PyProof.Rows.lexLt PyProof.Rows.itemOrd (PySem.W.keyToksAll []) (PySem.W.keyToksAll (x :: xs)) = true := by
  simp only [PySem.W.keyToksAll]; rfl
theorem toks_cons_nil (x : PyData) (xs : List PyData) : PyProof.Rows.lexLt PyProof.Rows.itemOrd (PySem.W.keyToksAll (x :: xs)) (PySem.W.keyToksAll []) = false := by
  simp only [PySem.W.keyToksAll]; rfl
theorem toks_nil_nil : PyProof.Rows.lexLt PyProof.Rows.itemOrd (PySem.W.keyToksAll []) (PySem.W.keyToksAll []) = false := PyProof.Rows.lex_irrefl _
mutual
theorem D.lt_py : ∀ (d e : D), d.like e = true → PySem.W.dataLt d.py e.py = d.lt e
  | .non, e, h => by cases e <;> first | (simp [D.like] at h; done) | skip; simp only [D.py, D.lt]; exact PyProof.Rows.lex_irrefl _
  | .bl a, e, h => by
    cases e <;> first | (simp [D.like] at h; done) | skip
    simp only [D.py, D.lt, PySem.W.dataLt_bool]
    rename_i b
    cases a <;> cases b <;> decide
  | .int i, e, h => by cases e <;> first | (simp [D.like] at h; done) | skip; simp only [D.py, D.lt]; exact PySem.W.dataLt_int _ _
  | .str x, e, h => by cases e <;> first | (simp [D.like] at h; done) | skip; simp only [D.py, D.lt]; rw [PySem.W.dataLt_str]
  | .tup xs, e, h => by
    cases e <;> first | (simp [D.like] at h; done) | skip
    simp only [D.py, D.lt, PySem.W.dataLt_tuple]; exact D.lt_pyL _ _ (by simpa [D.like] using h)
  | .lst xs, e, h => by
    cases e <;> first | (simp [D.like] at h; done) | skip
    simp only [D.py, D.lt, PySem.W.dataLt_list]; exact D.lt_pyL _ _ (by simpa [D.like] using h)
  | .dct _ _ _, e, h => by simp [D.like] at h
  | .exc _ _, e, h => by simp [D.like] at h
  | .scr _, e, h => by simp [D.like] at h
theorem D.lt_pyL : ∀ (ds es : List D), D.likeL ds es = true → PyProof.Rows.lexLt PyProof.Rows.itemOrd (PySem.W.keyToksAll (D.pyL ds)) (PySem.W.keyToksAll (D.pyL es)) = D.ltL ds es
  | [], [], _ => by simp only [D.pyL, D.ltL]; exact toks_nil_nil
  | [], e :: es, _ => by simp only [D.pyL, D.ltL]; exact toks_nil_cons _ _
  | d :: ds, [], _ => by simp only [D.pyL, D.ltL]; exact toks_cons_nil _ _
  | d :: ds, e :: es, h => by
    simp only [D.likeL, Bool.and_eq_true] at h
    simp only [D.pyL, D.ltL]
    rw [PySem.W.dataLt_cons (D.like_py d e h.1), D.eqv_py, D.lt_pyL ds es h.2, D.lt_py d e h.1]
end
inductive CmpK where | lt | gt | le | ge
def CmpK.op : CmpK → CmpOp
  | .lt => .Lt | .gt => .Gt | .le => .LtE | .ge => .GtE
def CmpK.val (k : CmpK) (d e : D) : Bool := match k with
  | .lt => d.lt e | .gt => e.lt d | .le => !e.lt d | .ge => !d.lt e
def D.isNon : D → Bool | .non => true | _ => false
def gCmp (k : CmpK) (d e : D) : Option PR := if d.ok 60 && e.ok 60 && d.like e && e.like d && !d.isNon then some (.d (.bl (k.val d e))) else none
theorem py_ne_none {d : D} (h : d.isNon = false) : d.py ≠ .none := by
  cases d <;> first | (simp [D.isNon] at h; done) | (simp only [D.py]; intro z; cases z)
section
variable {X : Cx}
theorem op_cmpU (k : CmpK) (hu : X.A.units + 64 < cLine) : OpR X (compareOp k.op) (r2 X.K (gCmp k)) := by
  intro pins s σ H x y v u Q I rx ry ⟨F, d, e, r, sb, nx, ny, hg, pw⟩
  unfold gCmp at hg
  by_cases c : (d.ok 60 && e.ok 60 && d.like e && e.like d && !d.isNon) = true
  · rw [if_pos c] at hg
    cases hg
    simp only [Bool.and_eq_true, Bool.not_eq_true'] at c
    obtain ⟨⟨⟨⟨c1, c2⟩, c3⟩, c4⟩, c5⟩ := c
    obtain ⟨as, ra⟩ := Dp.reads I d.py x v (nx.dp sb c1) rx
    obtain ⟨bs, rb⟩ := Dp.reads I e.py y u (ny.dp sb c2) ry
    have hd := (D.ok_lay d 60 c1).2
    have hroom : X.A.units + min d.py.depth e.py.depth < cLine := by omega
    have fin : EP X pins σ Q (.bool (k.val d e)) s := ⟨.bl _, H, I, rfl, pw.scal sb (.bl _)⟩
    cases k with
    | lt => exact PySem.W.lt_data ra rb (D.like_py d e c3) (py_ne_none c5) hroom (by rw [D.lt_py d e c3]; exact fin)
    | gt => exact PySem.W.gt_data ra rb (D.like_py d e c3) (py_ne_none c5) hroom (by rw [D.lt_py e d c4]; exact fin)
    | le => exact PySem.W.le_data ra rb (D.like_py d e c3) (py_ne_none c5) hroom (by rw [D.lt_py e d c4]; exact fin)
    | ge => exact PySem.W.ge_data ra rb (D.like_py d e c3) (py_ne_none c5) hroom (by rw [D.lt_py d e c3]; exact fin)
  · rw [if_neg c] at hg; cases hg
end
end U
end

section
set_option Elab.async false
set_option linter.all false
set_option maxRecDepth 100000
namespace U
open PySem PySem.Spec PyProof.Rows L2

section
variable {K : PySem.W.Frag} {F H : Hp}
theorem Now.tupR {v : V} {ds : List D} (h : Now K F H v (.tup ds)) : Rep K F v (.tup ds) := by
  rcases h with h | ⟨a, u, o, rfl, hu, ho, e⟩
  · exact h
  · cases ho <;> cases e
end
/-! ### + -/
def lim : Nat := 1000000
theorem lim_ok {n : Nat} (h : n ≤ lim) : n ≤ sizeLine := Nat.le_trans h (by rw [sizeLine_eq]; decide)
def gAdd (d e : D) : Option PR := match d with
  | .int i => match e with | .int j => some (.d (.int (i + j))) | _ => none
  | .str x => match e with | .str y => if x.length + y.length ≤ lim then some (.d (.str (x ++ y))) else none | _ => none
  | .lst xs => match e with | .lst ys => if xs.length + ys.length ≤ lim then some (.o (.l (xs ++ ys))) else none | _ => none
  | .tup xs => match e with | .tup ys => if xs.length + ys.length ≤ lim then some (.d (.tup (xs ++ ys))) else none | _ => none
  | _ => none
theorem ite_some {c : Prop} [Decidable c] {α : Type} {a b : α} (h : (if c then some a else none) = some b) : c ∧ a = b := by
  by_cases q : c
  · rw [if_pos q] at h; exact ⟨q, Option.some.inj h⟩
  · rw [if_neg q] at h; cases h
theorem stO_append (x y : List Nat) : stO x ++ stO y = stO (x ++ y) := by
  show Str.mk (x.toArray ++ y.toArray) = _
  simp
theorem stO_length (x : List Nat) : (stO x).length = x.length := by
  show x.toArray.size = _
  simp
section
variable {X : Cx}
theorem op_addU : OpR X (binaryOp .Add) (r2 X.K gAdd) := by
  intro pins s σ H x y v u Q I rx ry ⟨F, d, e, r, sb, nx, ny, hg, pw⟩
  cases d with
  | int i =>
    cases e <;> first | (cases hg; done) | skip
    cases hg
    exact op_add pins s σ H x y v u Q I rx ry ⟨_, _, nx.int, ny.int, pw.scal sb (.int _)⟩
  | str a =>
    cases e <;> first | (cases hg; done) | skip
    rename_i b
    obtain ⟨c, rfl⟩ := ite_some hg
    refine op_add_str pins s σ H x y v u Q I rx ry ⟨_, _, nx.str, ny.str, ?_, ?_⟩
    · rw [stO_length, stO_length]; exact lim_ok c
    · rw [stO_append]; exact pw.scal sb (.str _)
  | lst as =>
    cases e <;> first | (cases hg; done) | skip
    rename_i bs
    obtain ⟨c, rfl⟩ := ite_some hg
    obtain ⟨l, xs, rfl, hx, r1⟩ := nx.lst sb
    obtain ⟨b, zs, rfl, hz, r2⟩ := ny.lst sb
    have l1 := r1.length
    have l2 := r2.length
    exact op_cat pins s σ H _ _ v u Q I rx ry ⟨l, b, xs, zs, rfl, rfl, hx, hz, by rw [l1, l2]; exact lim_ok c, pw.lst sb (r1.append r2)⟩
  | tup as =>
    cases e <;> first | (cases hg; done) | skip
    rename_i bs
    obtain ⟨c, rfl⟩ := ite_some hg
    obtain ⟨l, xs, rfl, hx, r1⟩ := nx.tup sb
    obtain ⟨b, zs, rfl, hz, r2⟩ := ny.tup sb
    have l1 := r1.length
    have l2 := r2.length
    have hl := lim_ok c
    refine op_catA pins s σ H _ _ v u Q I rx ry ⟨l, b, xs, zs, rfl, rfl, .of hx, .of hz, by omega, fun e => ?_, fun _ e => ?_, fun _ _ => pw.tup sb (r1.append r2)⟩
    · subst e
      cases r1
      exact pw.scal sb (by simpa using ny.tupR)
    · subst e
      cases r2
      exact pw.scal sb (by simpa using nx.tupR)
  | _ => cases hg
end

/-! ### * -/
def rep (k : Int) (xs : List D) : List D := (List.replicate k.toNat xs).flatten
theorem RepL.rep {K : PySem.W.Frag} {F : Hp} {vs : List V} {ds : List D} (h : RepL K F vs ds) : ∀ n : Nat, RepL K F (List.replicate n vs).flatten (List.replicate n ds).flatten
  | 0 => by simpa using RepL.nil
  | n + 1 => by simp only [List.replicate_succ, List.flatten_cons]; exact h.append (RepL.rep h n)
def gMul (d e : D) : Option PR := match d with
  | .int i => match e with | .int j => if cMul i j then some (.d (.int (i * j))) else none | _ => none
  | .lst xs => match e with | .int k => if xs.length * k.toNat ≤ lim ∧ -(2 ^ 63) ≤ k ∧ k < 2 ^ 63 then some (.o (.l (rep k xs))) else none | _ => none
  | .tup xs => match e with | .int k => if 2 ≤ k ∧ k ≤ 1000 ∧ xs.length ≤ 1000 ∧ 0 < xs.length then some (.d (.tup (rep k xs))) else none | _ => none
  | _ => none
section
variable {X : Cx}
theorem op_mulU : OpR X (binaryOp .Mult) (r2 X.K gMul) := by
  intro pins s σ H x y v u Q I rx ry ⟨F, d, e, r, sb, nx, ny, hg, pw⟩
  cases d with
  | int i =>
    cases e <;> first | (cases hg; done) | skip
    rename_i j
    obtain ⟨c, rfl⟩ := ite_some hg
    exact op_mulD pins s σ H x y v u Q I rx ry ⟨F, .int i, .int j, _, sb, nx, ny, by show (if cMul i j = true then _ else _) = _; rw [if_pos c], pw⟩
  | lst as =>
    cases e <;> first | (cases hg; done) | skip
    rename_i k
    obtain ⟨⟨c1, c2, c3⟩, rfl⟩ := ite_some hg
    obtain ⟨l, xs, rfl, hx, r1⟩ := nx.lst sb
    have l1 := r1.length
    exact op_rep pins s σ H _ y v u Q I rx ry ⟨l, k, xs, rfl, ny.int, hx, c2, c3, by rw [l1]; exact lim_ok c1, pw.lst sb (RepL.rep r1 _)⟩
  | tup as =>
    cases e <;> first | (cases hg; done) | skip
    rename_i k
    obtain ⟨⟨c1, c2, c3, c4⟩, rfl⟩ := ite_some hg
    obtain ⟨l, xs, rfl, hx, r1⟩ := nx.tup sb
    have l1 := r1.length
    exact op_repT pins s σ H _ y v u Q I rx ry ⟨l, k, xs, rfl, ny.int, .of hx, fun z => by subst z; simp at l1; omega, c1, c2, by omega, pw.tup sb (RepL.rep r1 _)⟩
  | _ => cases hg
end

/-! ### in, not in -/
def D.mem (x : D) (ds : List D) : Bool := ds.any fun z => z.eqb x
def occ (x y : List Nat) : Bool := !(Builtin.Str.occurrences (stO y) (stO x) 0 (stO y).length 1).isEmpty
def gIn (neg : Bool) (d e : D) : Option PR := match e with
  | .lst ds => if d.ok 60 && D.okL ds 60 then some (.d (.bl (neg != d.mem ds))) else none
  | .tup ds => if d.ok 60 && D.okL ds 60 then some (.d (.bl (neg != d.mem ds))) else none
  | .str y => match d with | .str x => some (.d (.bl (neg != occ x y))) | _ => none
  | _ => none
theorem any_py {d : D} : ∀ ds : List D, (D.pyL ds).any (fun z => PyData.eqv z d.py) = d.mem ds
  | [] => rfl
  | e :: ds => by
    simp only [D.pyL, List.any_cons, D.eqv_py, D.mem]
    rw [any_py ds]; rfl
section
variable {X : Cx}
theorem inU_core (neg : Bool) (hu : X.A.units + 65 < cLine) : OpR X (compareOp (if neg then .NotIn else .In)) (r2 X.K (gIn neg)) := by
  intro pins s σ H x y v u Q I rx ry ⟨F, d, e, r, sb, nx, ny, hg, pw⟩
  have room : ∀ {ds : List D}, (d.ok 60 && D.okL ds 60) = true → X.A.units + 1 + min (PyData.depthAll (D.pyL ds)) d.py.depth < cLine := fun {ds} c => by
    rw [Bool.and_eq_true] at c
    have := (D.ok_lay d 60 c.1).2
    omega
  cases e with
  | lst ds =>
    obtain ⟨c, rfl⟩ := ite_some hg
    have hr := room c
    rw [Bool.and_eq_true] at c
    obtain ⟨as, ra⟩ := Dp.reads I d.py x v (nx.dp sb c.1) rx
    have hy : Dp X.K H y (.list (D.pyL ds)) := by
      obtain ⟨l, xs, rfl, hx, r1⟩ := ny.lst sb
      exact .lst (.inl (.inl hx)) (r1.dp sb c.2)
    obtain ⟨bs, rb⟩ := Dp.reads I _ y u hy ry
    have fin : EP X pins σ Q (.bool (neg != d.mem ds)) s := ⟨.bl _, H, I, rfl, pw.scal sb (.bl _)⟩
    cases neg with
    | false => exact SeqAt.in_list_reads rb ra (D.okL_lay ds 60 c.2).1 (D.ok_lay d 60 c.1).1 hr (by rw [any_py]; simpa using fin)
    | true => exact SeqAt.notIn_list_reads rb ra (D.okL_lay ds 60 c.2).1 (D.ok_lay d 60 c.1).1 hr (by rw [any_py]; simpa using fin)
  | tup ds =>
    obtain ⟨c, rfl⟩ := ite_some hg
    have hr := room c
    rw [Bool.and_eq_true] at c
    obtain ⟨as, ra⟩ := Dp.reads I d.py x v (nx.dp sb c.1) rx
    have hy : Dp X.K H y (.tuple (D.pyL ds)) := by
      obtain ⟨l, xs, rfl, hx, r1⟩ := ny.tup sb
      exact .tup (.of hx) (r1.dp sb c.2)
    obtain ⟨bs, rb⟩ := Dp.reads I _ y u hy ry
    have fin : EP X pins σ Q (.bool (neg != d.mem ds)) s := ⟨.bl _, H, I, rfl, pw.scal sb (.bl _)⟩
    cases neg with
    | false => exact SeqAt.in_tuple_reads rb ra (D.okL_lay ds 60 c.2).1 (D.ok_lay d 60 c.1).1 hr (by rw [any_py]; simpa using fin)
    | true => exact SeqAt.notIn_tuple_reads rb ra (D.okL_lay ds 60 c.2).1 (D.ok_lay d 60 c.1).1 hr (by rw [any_py]; simpa using fin)
  | str b =>
    cases d <;> first | (cases hg; done) | skip
    rename_i a
    cases hg
    cases neg with
    | false => exact op_in_str pins s σ H x y v u Q I rx ry ⟨_, _, nx.str, ny.str, by simpa [occ] using pw.scal sb (.bl _)⟩
    | true => exact L2.op_notIn_str pins s σ H x y v u Q I rx ry ⟨_, _, nx.str, ny.str, by simpa [occ] using pw.scal sb (.bl _)⟩
  | _ => cases hg
theorem op_inU (hu : X.A.units + 65 < cLine) : OpR X (compareOp .In) (r2 X.K (gIn false)) := inU_core false hu
theorem op_notInU (hu : X.A.units + 65 < cLine) : OpR X (compareOp .NotIn) (r2 X.K (gIn true)) := inU_core true hu
/-- is None, is not None -/
def gIs (neg : Bool) (d e : D) : Option PR := match e with | .non => some (.d (.bl (neg != d.isNon))) | _ => none
theorem now_non {K : PySem.W.Frag} {F H : Hp} {v : V} {d : D} (h : Now K F H v d) : decide (v = .non) = d.isNon := by
  rcases h with h | ⟨a, u, o, rfl, hu, ho, rfl⟩
  · cases h <;> rfl
  · cases ho <;> rfl
theorem op_isU : OpR X (compareOp .Is) (r2 X.K (gIs false)) := by
  intro pins s σ H x y v u Q I rx ry ⟨F, d, e, r, sb, nx, ny, hg, pw⟩
  cases e <;> first | (cases hg; done) | skip
  cases hg
  exact op_isN pins s σ H x y v u Q I rx ry ⟨ny.non, by rw [now_non nx]; simpa using pw.scal sb (.bl _)⟩
theorem op_isNotU : OpR X (compareOp .IsNot) (r2 X.K (gIs true)) := by
  intro pins s σ H x y v u Q I rx ry ⟨F, d, e, r, sb, nx, ny, hg, pw⟩
  cases e <;> first | (cases hg; done) | skip
  cases hg
  exact op_notN pins s σ H x y v u Q I rx ry ⟨ny.non, by rw [now_non nx]; simpa using pw.scal sb (.bl _)⟩
end
end U
end

section
set_option Elab.async false
set_option linter.all false
set_option maxRecDepth 100000
namespace U
open PySem PySem.Spec PyProof.Rows L2

/-! ### x[i] -/
/-- the value at a key -/
def dLook : List D → List D → D → Option D
  | k :: ks, v :: vs, d => if k.eqb d then some v else dLook ks vs d
  | _, _, _ => none
theorem atI_rep {K : PySem.W.Frag} {F : Hp} {vs : List V} {ds : List D} (h : RepL K F vs ds) {i : Int} {d : D} (e : atI ds i = some d) : ∃ v, atI vs i = some v ∧ Rep K F v d := by
  unfold atI at e ⊢
  rw [h.length]
  cases q : ixN ds.length i with
  | none => rw [q] at e; cases e
  | some j =>
    rw [q] at e
    exact h.get (i := j) e
theorem key_eqb {d e : D} {k l : Key} (h : d.key = some k) (h' : e.key = some l) : d.eqb e = decide (k = l) := by
  cases d <;> first | (cases h; done) | skip <;> (cases e <;> first | (cases h'; done) | skip)
  · cases h; cases h'
    rename_i i j
    simp only [D.eqb]
    by_cases q : i = j
    · subst q; simp
    · rw [beq_eq_false_iff_ne.mpr q, decide_eq_false (fun z => q (Sum.inl.inj z))]
  · cases h; cases h'; simp [D.eqb]
  · cases h; cases h'; simp [D.eqb]
  · cases h; cases h'
    rename_i x y
    simp only [D.eqb]
    rw [← stO_beq]
    by_cases q : stO x = stO y
    · rw [q]; simp
    · rw [beq_eq_false_iff_ne.mpr q, decide_eq_false (fun z => q (Sum.inr.inj z))]
theorem keys_cons {d : D} {ds : List D} {l : List Key} (h : keysOf (d :: ds) = some l) : ∃ k r, d.key = some k ∧ keysOf ds = some r ∧ l = k :: r := by
  unfold keysOf at h
  cases e1 : d.key with
  | none => rw [e1] at h; cases h
  | some k =>
    cases e2 : keysOf ds with
    | none => rw [e1, e2] at h; cases h
    | some r => rw [e1, e2] at h; cases h; exact ⟨k, r, rfl, rfl, rfl⟩
theorem keysT_cons {d : D} {ds : List D} {l : List (List Key)} (h : keysTOf (d :: ds) = some l) : ∃ k r, d.keyT = some k ∧ keysTOf ds = some r ∧ l = k :: r := by
  unfold keysTOf at h
  cases e1 : d.keyT with
  | none => rw [e1] at h; cases h
  | some k =>
    cases e2 : keysTOf ds with
    | none => rw [e1, e2] at h; cases h
    | some r => rw [e1, e2] at h; cases h; exact ⟨k, r, rfl, rfl, rfl⟩
theorem keys_eqb : ∀ {xs ys : List D} {k l : List Key}, keysOf xs = some k → keysOf ys = some l → D.eqbL xs ys = decide (k = l)
  | [], [], _, _, h, h' => by cases h; cases h'; rfl
  | [], y :: ys, _, _, h, h' => by
    obtain ⟨k, r, _, _, rfl⟩ := keys_cons h'
    cases h; simp [D.eqbL]
  | x :: xs, [], _, _, h, h' => by
    obtain ⟨k, r, _, _, rfl⟩ := keys_cons h
    cases h'; simp [D.eqbL]
  | x :: xs, y :: ys, _, _, h, h' => by
    obtain ⟨k, r, a1, a2, rfl⟩ := keys_cons h
    obtain ⟨l, r', b1, b2, rfl⟩ := keys_cons h'
    simp only [D.eqbL, key_eqb a1 b1, keys_eqb a2 b2, List.cons.injEq, Bool.decide_and]
theorem keyT_eqb {d e : D} {k l : List Key} (h : d.keyT = some k) (h' : e.keyT = some l) : d.eqb e = decide (k = l) := by
  cases d <;> first | (cases h; done) | skip <;> (cases e <;> first | (cases h'; done) | skip)
  simp only [D.eqb]
  exact keys_eqb h h'
theorem key_rep {K : PySem.W.Frag} {F : Hp} {v : V} {d : D} {k : Key} (h : d.key = some k) (r : Rep K F v d) : v = kV k := by
  cases r <;> first | (cases h; done) | (cases h; rfl)
theorem keys_rep {K : PySem.W.Frag} {F : Hp} : ∀ {vs : List V} {ds : List D} {k : List Key}, keysOf ds = some k → RepL K F vs ds → vs = k.map kV
  | _, _, _, h, .nil => by cases h; rfl
  | _, _, _, h, .cons a r => by
    obtain ⟨k, l, h1, h2, rfl⟩ := keys_cons h
    rw [key_rep h1 a, keys_rep h2 r]; rfl
theorem look_val {K : PySem.W.Frag} {F : Hp} {κ : Type} [DecidableEq κ] (kf : D → Option κ) (hk : ∀ {d e : D} {k l : κ}, kf d = some k → kf e = some l → d.eqb e = decide (k = l)) {d : D} {k : κ} (hd : kf d = some k) :
    ∀ {kvs : List (κ × V)} {ks ds : List D}, (ks.map kf = kvs.map (fun p => some p.1)) → RepL K F (kvs.map (·.2)) ds → (dLook ks ds d = none ∧ valV kvs k = none) ∨ ∃ e v, dLook ks ds d = some e ∧ valV kvs k = some v ∧ Rep K F v e
  | [], ks, ds, e, r => by
    cases ks with
    | nil => exact .inl ⟨by cases ds <;> rfl, rfl⟩
    | cons a b => cases e
  | (k0, v0) :: kvs, ks, ds, e, r => by
    cases ks with
    | nil => cases e
    | cons a ks =>
      simp only [List.map_cons, List.cons.injEq] at e
      obtain ⟨e1, e2⟩ := e
      have r' : RepL K F (v0 :: kvs.map (·.2)) ds := r
      cases r' with
      | cons h0 r0 =>
        have q := hk e1 hd
        by_cases c : k0 = k
        · rw [decide_eq_true c] at q
          refine .inr ⟨_, v0, ?_, ?_, h0⟩
          · simp only [dLook, q, if_true]
          · simp [valV, c]
        · rw [decide_eq_false c] at q
          have ih := look_val kf hk hd e2 r0
          have e3 : valV ((k0, v0) :: kvs) k = valV kvs k := by simp [valV, c]
          rw [e3]
          simp only [dLook, q, Bool.false_eq_true, if_false]
          exact ih
theorem keysOf_map : ∀ {ks : List D} {l : List Key}, keysOf ks = some l → ks.map D.key = l.map some
  | [], _, h => by cases h; rfl
  | d :: ds, _, h => by
    obtain ⟨k, r, h1, h2, rfl⟩ := keys_cons h
    simp only [List.map_cons, h1, keysOf_map h2]
theorem keysTOf_map : ∀ {ks : List D} {l : List (List Key)}, keysTOf ks = some l → ks.map D.keyT = l.map some
  | [], _, h => by cases h; rfl
  | d :: ds, _, h => by
    obtain ⟨k, r, h1, h2, rfl⟩ := keysT_cons h
    simp only [List.map_cons, h1, keysTOf_map h2]
/-- a dict that is read: frozen, or an owned one as it stands -/
theorem Now.dK {K : PySem.W.Frag} {F H : Hp} {v : V} {ks ds : List D} (h : Now K F H v (.dct false ks ds)) (s : Sub F H) :
    ∃ a kvs, v = .ref a ∧ Rd H a (.dK kvs) ∧ keysOf ks = some (kvs.map (·.1)) ∧ RepL K F (kvs.map (·.2)) ds := by
  rcases h with h | ⟨a, u, o, rfl, hu, ho, e⟩
  · cases h with
    | dK q k r => exact ⟨_, _, rfl, .inr ⟨_, s _ _ q⟩, k, r⟩
  · cases ho with
    | l _ => cases e
    | dK k r => cases e; exact ⟨a, _, rfl, .inl hu, k, r⟩
    | dT k r => cases e
theorem Now.dT {K : PySem.W.Frag} {F H : Hp} {v : V} {ks ds : List D} (h : Now K F H v (.dct true ks ds)) (s : Sub F H) :
    ∃ a kvs, v = .ref a ∧ Rd H a (.dT kvs) ∧ keysTOf ks = some (kvs.map (·.1)) ∧ RepL K F (kvs.map (·.2)) ds := by
  rcases h with h | ⟨a, u, o, rfl, hu, ho, e⟩
  · cases h with
    | dT q k r => exact ⟨_, _, rfl, .inr ⟨_, s _ _ q⟩, k, r⟩
  · cases ho with
    | l _ => cases e
    | dK k r => cases e
    | dT k r => cases e; exact ⟨a, _, rfl, .inl hu, k, r⟩
/-- is d a key of such a dict -/
def D.keyOk (t : Bool) (d : D) : Bool := if t then d.keyT.isSome else d.key.isSome
theorem Now.key {K : PySem.W.Frag} {F H : Hp} {v : V} {d : D} {k : Key} (h : Now K F H v d) (e : d.key = some k) : v = kV k := by
  rcases h with h | ⟨a, u, o, rfl, hu, ho, rfl⟩
  · exact key_rep e h
  · cases ho <;> cases e
theorem Now.keyT {K : PySem.W.Frag} {F H : Hp} {v : V} {d : D} {k : List Key} (s : Sub F H) (h : Now K F H v d) (e : d.keyT = some k) : ∃ b, v = .ref b ∧ H b = some (.tup (k.map kV)) := by
  cases d <;> first | (cases e; done) | skip
  obtain ⟨b, vs, rfl, hb, r⟩ := h.tup s
  rw [keys_rep e r] at hb
  exact ⟨b, rfl, hb⟩
/-- the look-up, at the heap -/
theorem dget_of {K : PySem.W.Frag} {F H : Hp} {x y : V} {t : Bool} {ks ds : List D} {d : D} (s : Sub F H) (nx : Now K F H x (.dct t ks ds)) (ny : Now K F H y d) (hk : d.keyOk t = true) :
    ∃ a, x = .ref a ∧ ((dLook ks ds d = none ∧ DGet H a y none) ∨ ∃ e v, dLook ks ds d = some e ∧ DGet H a y (some v) ∧ Rep K F v e) := by
  cases t with
  | false =>
    obtain ⟨a, kvs, rfl, hr, hks, r⟩ := nx.dK s
    have hk : d.key.isSome = true := hk
    obtain ⟨k, e⟩ := Option.isSome_iff_exists.mp hk
    refine ⟨a, rfl, ?_⟩
    have hm := keysOf_map hks
    rw [List.map_map] at hm
    rcases look_val D.key key_eqb e hm r with ⟨h1, h2⟩ | ⟨z, v, h1, h2, h3⟩
    · exact .inl ⟨h1, .inl ⟨kvs, k, hr, ny.key e, h2.symm⟩⟩
    · exact .inr ⟨z, v, h1, .inl ⟨kvs, k, hr, ny.key e, h2.symm⟩, h3⟩
  | true =>
    obtain ⟨a, kvs, rfl, hr, hks, r⟩ := nx.dT s
    have hk : d.keyT.isSome = true := hk
    obtain ⟨k, e⟩ := Option.isSome_iff_exists.mp hk
    obtain ⟨b, hy, hb⟩ := ny.keyT s e
    refine ⟨a, rfl, ?_⟩
    have hm := keysTOf_map hks
    rw [List.map_map] at hm
    rcases look_val D.keyT keyT_eqb e hm r with ⟨h1, h2⟩ | ⟨z, v, h1, h2, h3⟩
    · exact .inl ⟨h1, .inr ⟨kvs, k, b, hr, hy, hb, h2.symm⟩⟩
    · exact .inr ⟨z, v, h1, .inr ⟨kvs, k, b, hr, hy, hb, h2.symm⟩, h3⟩
def gIx (d e : D) : Option PR := match d with
  | .lst ds => match e with | .int i => (atI ds i).map .d | _ => none
  | .tup ds => match e with | .int i => (atI ds i).map .d | _ => none
  | .str x => match e with | .int i => if x.length ≤ lim then (atI x i).map fun c => .d (.str [c]) else none | _ => none
  | .scr ns => match e with | .int i => (atI ns i).map fun n => .d (.int n) | _ => none
  | .dct t ks vs => if e.keyOk t then (dLook ks vs e).map .d else none
  | _ => none
theorem map_some {α β : Type} {f : α → β} {o : Option α} {b : β} (h : o.map f = some b) : ∃ a, o = some a ∧ f a = b := by
  cases o with
  | none => cases h
  | some a => exact ⟨a, rfl, Option.some.inj h⟩
theorem atI_map {α β : Type} (f : α → β) (xs : List α) (i : Int) : atI (xs.map f) i = (atI xs i).map f := by
  unfold atI
  rw [List.length_map]
  cases ixN xs.length i with
  | none => rfl
  | some j => simp
section
variable {X : Cx}
theorem ix_U (hu : X.A.units + 1 < cLine) : IxR X (r2 X.K gIx) := by
  intro value slice pins s σ H x y v u Q I rx ry ⟨F, d, e, r, sb, nx, ny, hg, pw⟩ hs
  cases d with
  | lst ds =>
    cases e <;> first | (cases hg; done) | skip
    obtain ⟨z, e1, rfl⟩ := map_some hg
    obtain ⟨a, vs, rfl, ha, r1⟩ := nx.lst sb
    obtain ⟨w, e2, rw'⟩ := atI_rep r1 e1
    exact ix_list value slice pins s σ H _ y v u Q I rx ry ⟨a, vs, _, w, rfl, ny.int, .of ha, e2, pw.scal sb rw'⟩ hs
  | tup ds =>
    cases e <;> first | (cases hg; done) | skip
    obtain ⟨z, e1, rfl⟩ := map_some hg
    obtain ⟨a, vs, rfl, ha, r1⟩ := nx.tup sb
    obtain ⟨w, e2, rw'⟩ := atI_rep r1 e1
    exact ix_tup value slice pins s σ H _ y v u Q I rx ry ⟨a, vs, _, w, rfl, ny.int, .of ha, e2, pw.scal sb rw'⟩ hs
  | str a =>
    cases e <;> first | (cases hg; done) | skip
    rename_i i
    by_cases c : a.length ≤ lim
    · have hg : (if a.length ≤ lim then (atI a i).map (fun c => PR.d (.str [c])) else none) = some r := hg
      rw [if_pos c] at hg
      obtain ⟨z, e1, rfl⟩ := map_some hg
      exact ix_str value slice pins s σ H x y v u Q I rx ry ⟨stO a, i, z, nx.str, ny.int, by rw [stO_length]; exact lim_ok c, by simpa using e1, pw.scal sb (.str [z])⟩ hs
    · have hg : (if a.length ≤ lim then (atI a i).map (fun c => PR.d (.str [c])) else none) = some r := hg
      rw [if_neg c] at hg; cases hg
  | scr ns =>
    cases e <;> first | (cases hg; done) | skip
    obtain ⟨z, e1, rfl⟩ := map_some hg
    rcases nx with h | ⟨a, w, o, rfl, hw, ho, ee⟩
    · cases h with
      | scr q => exact ix_list value slice pins s σ H _ y v u Q I rx ry ⟨_, _, _, .int z, rfl, ny.int, sb.sqL q, by rw [atI_map, e1]; rfl, pw.scal sb (.int z)⟩ hs
    · cases ho <;> cases ee
  | dct t ks vs =>
    have hg : (if e.keyOk t = true then (dLook ks vs e).map PR.d else none) = some r := hg
    by_cases c : e.keyOk t = true
    · rw [if_pos c] at hg
      obtain ⟨z, e1, rfl⟩ := map_some hg
      obtain ⟨a, rfl, h | ⟨z', w, h1, h2, h3⟩⟩ := dget_of sb nx ny c
      · rw [h.1] at e1; cases e1
      · rw [h1] at e1; cases e1
        cases rx
        exact tail_any (ops := [.ref a, u]) (dict_typeIs I h2) PySem.F.slot_dict_getitem.lookup (d_getItem hu I h2 ry fun w' s3 I3 rw' => ⟨w, H, I3, rw', pw.scal sb h3⟩) hs
    · rw [if_neg c] at hg; cases hg
  | _ => cases hg
end
end U
end

section
set_option Elab.async false
set_option linter.all false
set_option maxRecDepth 100000
namespace U
open PySem PySem.Spec PyProof.Rows L2

/-! ### x[lo:hi] -/
def cutA {α : Type} (xs : List α) (lo hi : Option Int) : List α := (xs.drop (HT.sIx xs.length 0 lo)).take (HT.sIx xs.length xs.length hi - HT.sIx xs.length 0 lo)
theorem cutA_rep {K : PySem.W.Frag} {F : Hp} {vs : List V} {ds : List D} (h : RepL K F vs ds) (lo hi : Option Int) : RepL K F (cutV vs lo hi) (cutA ds lo hi) := by
  unfold cutV cutA
  rw [h.length]
  exact (h.drop _).take _
theorem cutA_map {α β : Type} (f : α → β) (xs : List α) (lo hi : Option Int) : cutA (xs.map f) lo hi = (cutA xs lo hi).map f := by
  unfold cutA; simp [List.map_take, List.map_drop]
theorem cutA_whole {α : Type} {xs : List α} {lo hi : Option Int} (h : HT.sIx xs.length 0 lo = 0 ∧ HT.sIx xs.length xs.length hi = xs.length) : cutA xs lo hi = xs := by
  unfold cutA; rw [h.1, h.2]; simp
def gSl (lo hi : Option Int) (d : D) : Option PR := match d with
  | .lst ds => some (.o (.l (cutA ds lo hi)))
  | .tup ds => some (.d (.tup (cutA ds lo hi)))
  | .str x => if x.length ≤ lim then some (.d (.str (cutA x lo hi))) else none
  | .scr ns => some (.o (.l ((cutA ns lo hi).map .int)))
  | _ => none
def rSl (K : PySem.W.Frag) : V → Option Int → Option Int → Hp → VK → Prop := fun x lo hi H Q => ∃ F d r, Sub F H ∧ Now K F H x d ∧ gSl lo hi d = some r ∧ PW K F H r Q
section
variable {X : Cx}
theorem sl_U : SlR X (rSl X.K) := by
  intro pins s σ H x v vl vu lo hi sl Q I rx hs pl pu ⟨F, d, r, sb, nx, hg, pw⟩
  cases d with
  | lst ds =>
    cases hg
    obtain ⟨a, vs, rfl, ha, r1⟩ := nx.lst sb
    exact sl_list pins s σ H _ v vl vu lo hi sl Q I rx hs pl pu ⟨a, vs, rfl, .of ha, pw.lst sb (cutA_rep r1 lo hi)⟩
  | tup ds =>
    cases hg
    obtain ⟨a, vs, rfl, ha, r1⟩ := nx.tup sb
    refine sl_tupA pins s σ H _ v vl vu lo hi sl Q I rx hs pl pu ⟨a, vs, rfl, .of ha, fun w => ?_, fun _ => pw.tup sb (cutA_rep r1 lo hi)⟩
    rw [r1.length] at w
    refine pw.scal sb ?_
    rw [cutA_whole w]
    exact nx.tupR
  | str a =>
    obtain ⟨c, rfl⟩ := ite_some hg
    refine sl_str pins s σ H x v vl vu lo hi sl Q I rx hs pl pu ⟨stO a, nx.str, by rw [stO_length]; exact lim_ok c, ?_⟩
    have e : cutS (stO a) lo hi = stO (cutA a lo hi) := by
      unfold cutS cutA
      rw [stO_length]
    rw [e]
    exact pw.scal sb (.str _)
  | scr ns =>
    cases hg
    rcases nx with h | ⟨a, w, o, rfl, hw, ho, ee⟩
    · cases h with
      | scr q =>
        refine sl_list pins s σ H _ v vl vu lo hi sl Q I rx hs pl pu ⟨_, _, rfl, sb.sqL q, ?_⟩
        refine pw.lst sb ?_
        have e : cutV (ns.map V.int) lo hi = (cutA ns lo hi).map V.int := cutA_map V.int ns lo hi
        rw [e]
        exact RepL.of_ints _
    · cases ho <;> cases ee
  | _ => cases hg
end

/-! ### truth -/
def D.truth : D → Option Bool
  | .non => some false
  | .bl b => some b
  | .int i => some (i != 0)
  | .str x => if x.length ≤ lim then some (!x.isEmpty) else none
  | .tup xs => some (!xs.isEmpty)
  | .lst xs => some (!xs.isEmpty)
  | _ => none
theorem isEmpty_rep {K : PySem.W.Frag} {F : Hp} {vs : List V} {ds : List D} (r : RepL K F vs ds) : vs.isEmpty = ds.isEmpty := by cases r <;> rfl
theorem truth_of {K : PySem.W.Frag} {F H : Hp} {v : V} {d : D} {b : Bool} (s : Sub F H) (n : Now K F H v d) (h : d.truth = some b) : TruV K v H b := by
  cases d with
  | non => cases h; rw [n.non]; rfl
  | bl c => cases h; rw [n.bl]; rfl
  | int i => cases h; rw [n.int]; rfl
  | str x =>
    obtain ⟨c, rfl⟩ := ite_some h
    rw [n.str]
    refine ⟨by rw [stO_length]; exact lim_ok c, ?_⟩
    rw [stO_length]
    cases x with
    | nil => rfl
    | cons a r =>
      have : ((((a :: r).length : Nat) : Int) != 0) = true := by simp; omega
      rw [this]; rfl
  | tup xs =>
    cases h
    obtain ⟨a, vs, rfl, ha, r⟩ := n.tup s
    exact .inr (.inl ⟨vs, .of ha, by rw [isEmpty_rep r]⟩)
  | lst xs =>
    cases h
    obtain ⟨a, vs, rfl, ha, r⟩ := n.lst s
    exact .inl ⟨vs, .of ha, by rw [isEmpty_rep r]⟩
  | _ => cases h

/-! ### calls -/
theorem NowL.one {K : PySem.W.Frag} {F H : Hp} {xs : List V} {d : D} (h : NowL K F H xs [d]) : ∃ x, xs = [x] ∧ Now K F H x d := by
  cases h with
  | cons a r => cases r; exact ⟨_, rfl, a⟩
theorem NowL.two {K : PySem.W.Frag} {F H : Hp} {xs : List V} {d e : D} (h : NowL K F H xs [d, e]) : ∃ x y, xs = [x, y] ∧ Now K F H x d ∧ Now K F H y e := by
  cases h with
  | cons a r => cases r with
    | cons b r => cases r; exact ⟨_, _, rfl, a, b⟩
def g1 (g : D → Option PR) : List D → Option PR
  | [d] => g d
  | _ => none
theorem g1_some {g : D → Option PR} {ds : List D} {r : PR} (h : g1 g ds = some r) : ∃ d, ds = [d] ∧ g d = some r := by
  cases ds with
  | nil => cases h
  | cons d t => cases t with
    | nil => exact ⟨d, rfl, h⟩
    | cons => cases h
def gLen : D → Option PR
  | .lst ds => some (.d (.int ds.length))
  | .tup ds => some (.d (.int ds.length))
  | .scr ns => some (.d (.int ns.length))
  | .str x => if x.length ≤ lim then some (.d (.int x.length)) else none
  | _ => none
def gTuple : D → Option PR
  | .lst ds => some (.d (.tup ds))
  | .tup ds => some (.d (.tup ds))
  | .str x => if x.length ≤ lim then some (.d (.tup (x.map fun c => .str [c]))) else none
  | _ => none
def gList : D → Option PR
  | .lst ds => some (.o (.l ds))
  | .tup ds => some (.o (.l ds))
  | _ => none
def gAbs : D → Option PR
  | .int i => some (.d (.int (if i < 0 then -i else i)))
  | _ => none
def gIntC : D → Option PR
  | .int i => some (.d (.int i))
  | .bl b => some (.d (.int (if b then 1 else 0)))
  | _ => none
def blsOf : List D → Option (List Bool)
  | [] => some []
  | .bl b :: r => (blsOf r).map (b :: ·)
  | _ => none
def intsOf : List D → Option (List Int)
  | [] => some []
  | .int b :: r => (intsOf r).map (b :: ·)
  | _ => none
theorem bls_rep {K : PySem.W.Frag} {F : Hp} : ∀ {vs : List V} {ds : List D} {bs : List Bool}, RepL K F vs ds → blsOf ds = some bs → vs = bs.map V.bl
  | _, _, _, .nil, e => by cases e; rfl
  | _, _, _, .cons h r, e => by
    cases h <;> first | (cases e; done) | skip
    obtain ⟨t, e1, rfl⟩ := map_some e
    rw [bls_rep r e1]; rfl
theorem ints_rep {K : PySem.W.Frag} {F : Hp} : ∀ {vs : List V} {ds : List D} {bs : List Int}, RepL K F vs ds → U.intsOf ds = some bs → vs = bs.map V.int
  | _, _, _, .nil, e => by cases e; rfl
  | _, _, _, .cons h r, e => by
    cases h <;> first | (cases e; done) | skip
    obtain ⟨t, e1, rfl⟩ := map_some e
    rw [ints_rep r e1]; rfl
def gAny : D → Option PR
  | .lst ds => (blsOf ds).map fun bs => .d (.bl (bs.any id))
  | _ => none
def gAll : D → Option PR
  | .lst ds => (blsOf ds).map fun bs => .d (.bl (bs.all id))
  | _ => none
def gSum : D → Option PR
  | .lst ds => (U.intsOf ds).map fun bs => .d (.int bs.sum)
  | _ => none
section
variable {X : Cx}
theorem cr_lenU : CallR X (.builtin "len") (rC X.K (g1 gLen)) := by
  intro pins s σ H xs us Q I rs ⟨F, ds, r, sb, n, hg, pw⟩
  obtain ⟨d, rfl, hg⟩ := g1_some hg
  obtain ⟨x, rfl, n1⟩ := n.one
  cases d with
  | lst ds =>
    cases hg
    obtain ⟨a, vs, rfl, ha, r1⟩ := n1.lst sb
    exact call_len_seq pins s σ H _ us Q I rs ⟨a, vs, rfl, .inl (.of ha), by rw [r1.length]; exact pw.scal sb (.int _)⟩
  | tup ds =>
    cases hg
    obtain ⟨a, vs, rfl, ha, r1⟩ := n1.tup sb
    exact call_len_seq pins s σ H _ us Q I rs ⟨a, vs, rfl, .inr (.of ha), by rw [r1.length]; exact pw.scal sb (.int _)⟩
  | scr ns =>
    cases hg
    rcases n1 with h | ⟨a, w, o, rfl, hw, ho, ee⟩
    · cases h with
      | scr q => exact call_len_seq pins s σ H _ us Q I rs ⟨_, _, rfl, .inl (sb.sqL q), by rw [List.length_map]; exact pw.scal sb (.int _)⟩
    · cases ho <;> cases ee
  | str x =>
    obtain ⟨c, rfl⟩ := ite_some hg
    have e := n1.str
    subst e
    exact call_len_str pins s σ H _ us Q I rs ⟨stO x, rfl, by rw [stO_length]; exact lim_ok c, by rw [stO_length]; exact pw.scal sb (.int _)⟩
  | _ => cases hg
theorem cr_listU : CallR X (.type "list") (rC X.K (g1 gList)) := by
  intro pins s σ H xs us Q I rs ⟨F, ds, r, sb, n, hg, pw⟩
  obtain ⟨d, rfl, hg⟩ := g1_some hg
  obtain ⟨x, rfl, n1⟩ := n.one
  cases d with
  | lst ds =>
    cases hg
    obtain ⟨a, vs, rfl, ha, r1⟩ := n1.lst sb
    exact call_list_of pins s σ H _ us Q I rs ⟨a, vs, rfl, .inl (.of ha), pw.lst sb r1⟩
  | tup ds =>
    cases hg
    obtain ⟨a, vs, rfl, ha, r1⟩ := n1.tup sb
    exact call_list_of pins s σ H _ us Q I rs ⟨a, vs, rfl, .inr (.of ha), pw.lst sb r1⟩
  | _ => cases hg
theorem vals_at : ∀ {xs : List V} {us : List Value}, xs.length = us.length → (∀ (i : Nat) (x : V) (u : Value), xs[i]? = some x → us[i]? = some u → RelV x u) → Vals xs us
  | [], [], _, _ => .nil
  | [], _ :: _, h, _ => by simp at h
  | _ :: _, [], h, _ => by simp at h
  | x :: xs, u :: us, h, f => .cons (f 0 x u rfl rfl) (vals_at (by simpa using h) fun i y w e1 e2 => f (i + 1) y w (by simpa using e1) (by simpa using e2))
theorem signs_rep {K : PySem.W.Frag} {F : Hp} : ∀ x : List Nat, RepL K F (x.map fun c => V.str (stO [c])) (x.map fun c => D.str [c])
  | [] => .nil
  | c :: x => .cons (.str [c]) (signs_rep x)
theorem cr_tupleU (hc : X.calm = true) : CallR X (.type "tuple") (rC X.K (g1 gTuple)) := by
  intro pins s σ H xs us Q I rs ⟨F, ds, r, sb, n, hg, pw⟩
  obtain ⟨d, rfl, hg⟩ := g1_some hg
  obtain ⟨x, rfl, n1⟩ := n.one
  cases d with
  | lst ds =>
    cases hg
    obtain ⟨a, vs, rfl, ha, r1⟩ := n1.lst sb
    exact call_tuple_of pins s σ H _ us Q I rs ⟨a, vs, rfl, .inl ⟨.of ha, pw.tup sb r1⟩⟩
  | tup ds =>
    cases hg
    obtain ⟨a, vs, rfl, ha, r1⟩ := n1.tup sb
    exact call_tuple_of pins s σ H _ us Q I rs ⟨a, vs, rfl, .inr ⟨.of ha, pw.scal sb n1.tupR⟩⟩
  | str x =>
    obtain ⟨c, rfl⟩ := ite_some hg
    have e := n1.str
    subst e
    obtain ⟨u, rfl, t, rfl⟩ := vals1 rs
    have hl : (stO x).cps.size ≤ sizeLine := by
      show x.toArray.size ≤ _
      rw [List.size_toArray]; exact lim_ok c
    refine call_tuple_str (I.ok.hd hc) (stO x) t (fun h' tk acc kp ac => ?_) hl
    have hv : Vals (x.map fun c => V.str (stO [c])) acc.toList := by
      refine vals_at ?_ fun i w u e1 e2 => ?_
      · have e := ac.1
        have e' : acc.size = x.length := by rw [e]; show x.toArray.size = _; simp
        rw [List.length_map, ← e', ← Array.length_toList]
      · obtain ⟨c, u', h1, h2⟩ := ac.2 i u (by simpa using e2)
        rw [List.getElem?_map] at e1
        obtain ⟨c', e3, rfl⟩ := map_some e1
        have h1' : x[i]? = some c := by simpa using h1
        rw [h1'] at e3
        cases e3
        exact ⟨u', h2⟩
    have I1 : Inv X pins σ H { s with heap := h' } := I.kept (t' := s.toks) kp
    have I2 : Inv X pins σ (upd H h'.objs.size (.tup (x.map fun c => V.str (stO [c])))) { s with heap := h'.push { cls := .type "tuple", data := .seq acc }, toks := tk } :=
      I1.laid (t' := tk) (fun b o e => Heap.get?_push_of_some _ e) (Nat.le_refl _) (show ObjOk X.prog X.w _ _ _ (.tup _) from ⟨by rw [List.length_map]; exact lim_ok c, acc.toList, hv, by simpa using IsTup.new _ _⟩)
    exact ⟨.ref h'.objs.size, _, I2, rfl, pw.tup sb (signs_rep x) _ (I1.hok.fresh (Nat.le_refl _))⟩
  | _ => cases hg
theorem cr_absU : CallR X (.builtin "abs") (rC X.K (g1 gAbs)) := by
  intro pins s σ H xs us Q I rs ⟨F, ds, r, sb, n, hg, pw⟩
  obtain ⟨d, rfl, hg⟩ := g1_some hg
  obtain ⟨x, rfl, n1⟩ := n.one
  cases d <;> first | (cases hg; done) | skip
  cases hg
  have e := n1.int
  subst e
  exact call_abs pins s σ H _ us Q I rs ⟨_, rfl, pw.scal sb (.int _)⟩
theorem cr_intU : CallR X (.type "int") (rC X.K (g1 gIntC)) := by
  intro pins s σ H xs us Q I rs ⟨F, ds, r, sb, n, hg, pw⟩
  obtain ⟨d, rfl, hg⟩ := g1_some hg
  obtain ⟨x, rfl, n1⟩ := n.one
  cases d <;> first | (cases hg; done) | skip
  · cases hg
    have e := n1.bl
    subst e
    exact call_int1 pins s σ H _ us Q I rs (.inr ⟨_, rfl, pw.scal sb (.int _)⟩)
  · cases hg
    have e := n1.int
    subst e
    exact call_int1 pins s σ H _ us Q I rs (.inl ⟨_, rfl, pw.scal sb (.int _)⟩)
theorem cr_anyU (hc : X.calm = true) : CallR X (.builtin "any") (rC X.K (g1 gAny)) := by
  intro pins s σ H xs us Q I rs ⟨F, ds, r, sb, n, hg, pw⟩
  obtain ⟨d, rfl, hg⟩ := g1_some hg
  obtain ⟨x, rfl, n1⟩ := n.one
  cases d <;> first | (cases hg; done) | skip
  obtain ⟨bs, e1, rfl⟩ := map_some hg
  obtain ⟨a, vs, rfl, ha, r1⟩ := n1.lst sb
  rw [bls_rep r1 e1] at ha
  exact cr_any hc pins s σ H _ us Q I rs ⟨a, bs, rfl, .of ha, pw.scal sb (.bl _)⟩
theorem cr_allU (hc : X.calm = true) : CallR X (.builtin "all") (rC X.K (g1 gAll)) := by
  intro pins s σ H xs us Q I rs ⟨F, ds, r, sb, n, hg, pw⟩
  obtain ⟨d, rfl, hg⟩ := g1_some hg
  obtain ⟨x, rfl, n1⟩ := n.one
  cases d <;> first | (cases hg; done) | skip
  obtain ⟨bs, e1, rfl⟩ := map_some hg
  obtain ⟨a, vs, rfl, ha, r1⟩ := n1.lst sb
  rw [bls_rep r1 e1] at ha
  exact cr_all hc pins s σ H _ us Q I rs ⟨a, bs, rfl, .of ha, pw.scal sb (.bl _)⟩
theorem cr_sumU (hc : X.calm = true) : CallR X (.builtin "sum") (rC X.K (g1 gSum)) := by
  intro pins s σ H xs us Q I rs ⟨F, ds, r, sb, n, hg, pw⟩
  obtain ⟨d, rfl, hg⟩ := g1_some hg
  obtain ⟨x, rfl, n1⟩ := n.one
  cases d <;> first | (cases hg; done) | skip
  obtain ⟨bs, e1, rfl⟩ := map_some hg
  obtain ⟨a, vs, rfl, ha, r1⟩ := n1.lst sb
  rw [ints_rep r1 e1] at ha
  exact cr_sum hc pins s σ H _ us Q I rs ⟨a, bs, rfl, .of ha, pw.scal sb (.int _)⟩
end
end U
end

section
set_option Elab.async false
set_option linter.all false
set_option maxRecDepth 100000
namespace U
open PySem PySem.Spec PyProof.Rows L2

/-! ### the reading of an expression -/
def RX (K : PySem.W.Frag) (M : MS) (σ : St) (Q : VK) (r : PR) (τ' : T) (F' H' : Hp) : Prop := match r with
  | .d z => ∀ v, Rep K F' v z → Q v H'
  | .o z => ∀ v, OwnR K M F' H' σ τ' v z → Q v H'
def rdX (K : PySem.W.Frag) (px : PX) (W : WX) (f : T → Rs PR) : TE := fun σ H Q => ∃ M F τ, SRel K M F H σ τ ∧ Post K px W M F H σ (f τ) (RX K M σ Q)
def JX (px : PX) (W : WX) (X : Cx) (e : Expr) (f : T → Rs PR) : Prop := PE X e (rdX X.K px W f)
/-- the value, frozen -/
def frz (f : T → Rs PR) : T → Rs D := fun τ => (f τ).bind fun r τ' => .ok r.toD τ'
section
variable {K : PySem.W.Frag} {px : PX} {W : WX} {M : MS} {F H F1 H1 : Hp} {σ : St} {τ : T}
/-- a primitive's wish, from what is wanted behind it -/
theorem Post.pw {r : PR} {Q : VK} (s : SRel K M F H σ τ) (p : Post K px W M F H σ (.ok r τ) (RX K M σ Q)) : PW K F H r Q := by
  cases r with
  | d z => exact fun v F' H' n rep => p F' H' n.grow (n.srel s) v rep
  | o z => exact fun a u F' H' n hp ho => p F' (upd H' a u) (n.grow.trans (grow_alloc hp)) ((n.srel s).alloc hp) _ ((n.srel s).fresh_own hp ho)
theorem Post.pw' {m : Rs PR} {r : PR} {Q : VK} (s : SRel K M F H σ τ) (p : Post K px W M F H σ m (RX K M σ Q)) (e : m = .ok r τ) : PW K F H r Q := by
  subst e; exact p.pw s
/-- an owned object is sealed -/
theorem sealing {a : Addr} {u o : HO} (s : SRel K M F H σ τ) (hu : H a = some u) (hf : F a = none) (hm : M.m a) (hx : ∀ (i : Nat) (sl : Sl), τ[i]? = some sl → sl.mut ≠ none → σ[i]? ≠ some (some (V.ref a))) :
    Grow M F H (upd F a o) (upd H a o) ∧ SRel K M (upd F a o) (upd H a o) σ τ := by
  refine ⟨⟨fun b e => ?_, Sub.upd hf, fun b w e m => ?_, fun b e n m => ?_⟩, s.len, fun b e => ?_, fun b w e => ?_, fun i d e => ?_, fun i sl ov e1 e2 => ?_, s.apart, s.io⟩
  · by_cases q : b = a
    · rw [q, upd_same] at e; cases e
    · rw [upd_ne q] at e; exact e
  · rw [upd_ne (fun q => m (by rw [q]; exact hm))]; exact e
  · rw [upd_ne (fun q => m (by rw [q]; exact hm))]; exact e
  · by_cases q : b = a
    · rw [q]; exact hm
    · rw [upd_ne q] at e; exact s.up b e
  · by_cases q : b = a
    · rw [q, upd_same] at e ⊢; exact e
    · rw [upd_ne q] at e ⊢; exact s.sub b w e
  · obtain ⟨v, e1, r⟩ := s.val i d e
    exact ⟨v, e1, r.mono (Sub.upd hf)⟩
  · obtain ⟨b, w, h1, h2, h3, h4, h5⟩ := s.own i sl ov e1 e2
    have ne : b ≠ a := fun q => hx i sl e1 (by rw [e2]; exact fun z => nomatch z) (q ▸ h1)
    exact ⟨b, w, h1, by rw [upd_ne ne]; exact h2, by rw [upd_ne ne]; exact h3, h4, h5.mono (Sub.upd hf)⟩
theorem upd_id {H : Hp} {a : Addr} {u : HO} (h : H a = some u) : upd H a u = H := by
  funext b
  by_cases q : b = a
  · rw [q, upd_same, h]
  · rw [upd_ne q]
end
/-- a value may be locked where it comes -/
def Lk (Q : VK) : VK := fun v H => Q v H ∨ ∃ a u, v = .ref a ∧ H a = some u ∧ Mut (some u) ∧ ∀ od, Q v (upd H a (.frz od u))
theorem pe_lock {X : Cx} {e : Expr} {t : TE} (h : PE X e t) : PE X e (fun σ H Q => t σ H (Lk Q)) := by
  refine ⟨fun pins s σ H Q I q => ?_⟩
  refine thn (h.run pins s σ H _ I q) fun v s1 ⟨x, H1, I1, r1, q1⟩ => ?_
  rcases q1 with q1 | ⟨a, u, rfl, ha, mu, q1⟩
  · exact ⟨x, H1, I1, r1, q1⟩
  · obtain ⟨od, I2⟩ := I1.lock ha mu
    exact ⟨_, _, I2, r1, q1 od⟩
section
variable {K : PySem.W.Frag} {px : PX} {W : WX} {M : MS} {F H F1 H1 : Hp} {σ : St} {τ : T}
theorem own_lk {Q : VK} {v : V} {o : OV} (s : SRel K M F H σ τ) (r : OwnR K M F H σ τ v o) (h : ∀ F' H', Grow M F H F' H' → SRel K M F' H' σ τ → Rep K F' v o.toD → Q v H') : Lk Q v H := by
  obtain ⟨a, u, rfl, hu, hf, hm, ho, hx⟩ := r
  cases ho with
  | @l ds vs rl =>
    left
    obtain ⟨g, s'⟩ := sealing (o := .lst vs) s hu hf hm hx
    rw [upd_id hu] at g s'
    exact h _ _ g s' (.lst upd_same (rl.mono (Sub.upd hf)))
  | @dK kvs ks ds k rl =>
    refine .inr ⟨a, _, rfl, hu, trivial, fun od => ?_⟩
    obtain ⟨g, s'⟩ := sealing (o := .frz od (.dK kvs)) s hu hf hm hx
    exact h _ _ g s' (.dK upd_same k (rl.mono (Sub.upd hf)))
  | @dT kvs ks ds k rl =>
    refine .inr ⟨a, _, rfl, hu, trivial, fun od => ?_⟩
    obtain ⟨g, s'⟩ := sealing (o := .frz od (.dT kvs)) s hu hf hm hx
    exact h _ _ g s' (.dT upd_same k (rl.mono (Sub.upd hf)))
end
theorem JX.frz {px : PX} {W : WX} {X : Cx} {e : Expr} {f : T → Rs PR} (h : JX px W X e f) : JE px W X e (frz f) := by
  refine PE.imp (pe_lock h) fun σ H Q ⟨M, F, τ, s, p⟩ => ⟨M, F, τ, s, p.bind.imp fun r τ1 F1 H1 g s1 q => ?_⟩
  cases r with
  | d z => exact fun v rv => .inl (q F1 H1 .refl s1 v rv)
  | o z => exact fun v rv => own_lk s1 rv fun F' H' g' s' rw' => q F' H' g' s' v rw'
/-- a frozen value as a value -/
theorem JE.x {px : PX} {W : WX} {X : Cx} {e : Expr} {f : T → Rs D} (h : JE px W X e f) : JX px W X e (fun τ => (f τ).bind fun z τ' => .ok (.d z) τ') :=
  PE.imp h fun σ H Q ⟨M, F, τ, s, p⟩ => ⟨M, F, τ, s, p.bind.imp fun r τ1 F1 H1 g s1 q v rv => q F1 H1 .refl s1 v rv⟩

/-! ### constants, names -/
section
variable {px : PX} {W : WX} {X : Cx} {pos : Pos} {k : Nat}
def sC (d : D) : T → Rs PR := fun τ => .ok (.d d) τ
theorem jx_of_tC {e : Expr} {v : V} {d : D} (h : PE X e (tC v)) (r : ∀ F, Rep X.K F v d) : JX px W X e (sC d) :=
  PE.imp h fun σ H Q ⟨M, F, τ, s, p⟩ => p F H .refl s v (r F)
theorem jx_int {i : Int} : JX px W X (.Constant (.int i) k pos) (sC (.int i)) := jx_of_tC pe_int fun _ => .int i
theorem jx_bl {b : Bool} : JX px W X (.Constant (.bool b) k pos) (sC (.bl b)) := jx_of_tC pe_bl fun _ => .bl b
theorem jx_non : JX px W X (.Constant .none k pos) (sC .non) := jx_of_tC pe_non fun _ => .non
theorem jx_str {x : List Nat} : JX px W X (.Constant (.str (stO x)) k pos) (sC (.str x)) := jx_of_tC pe_str fun _ => .str x
/-- a slot's name: an owned object is sealed by being read -/
def sVar (i : Nat) : T → Rs PR := fun τ => match τ[i]? with
  | some (.val d) => .ok (.d d) τ
  | some (.own o) => .ok (.d o.toD) (τ.set i (.val o.toD))
  | _ => .stuck
theorem SRel.sealed {K : PySem.W.Frag} {M : MS} {F' H' : Hp} {σ : St} {τ : T} {i : Nat} {o : OV} {a : Addr} {d : D} (s : SRel K M F' H' σ (τ.set i .no)) (hv : σ[i]? = some (some (V.ref a))) (r : Rep K F' (V.ref a) d) : SRel K M F' H' σ (τ.set i (.val d)) := by
  have ne : ∀ {j : Nat} {sl : Sl}, (τ.set i (.val d))[j]? = some sl → j ≠ i → (τ.set i .no)[j]? = some sl := fun {j sl} e n => by
    rw [List.getElem?_set_ne (Ne.symm n)] at e ⊢; exact e
  have at_ : ∀ {j : Nat} {sl : Sl}, (τ.set i (.val d))[j]? = some sl → j = i → sl = .val d := fun {j sl} e n => by
    subst n
    rw [List.getElem?_set] at e
    split at e
    · split at e
      · exact (Option.some.inj e).symm
      · cases e
    · rename_i h; exact absurd rfl h
  refine ⟨by simpa using s.len, s.up, s.sub, fun j d' e => ?_, fun j sl ov e1 e2 => ?_, fun j k sl tl b e1 m1 e2 m2 => ?_, fun j o' e => ?_⟩
  · by_cases n : j = i
    · have := at_ e n
      cases this
      exact ⟨_, n ▸ hv, r⟩
    · exact s.val j d' (ne e n)
  · by_cases n : j = i
    · have := at_ e1 n
      subst this
      cases e2
    · exact s.own j sl ov (ne e1 n) e2
  · have n1 : j ≠ i := fun n => by have := at_ e1 n; subst this; exact m1 rfl
    have n2 : k ≠ i := fun n => by have := at_ e2 n; subst this; exact m2 rfl
    exact s.apart j k sl tl b (ne e1 n1) m1 (ne e2 n2) m2
  · exact s.io j o' (ne e fun n => by have := at_ e n; cases this)
theorem SRel.drop {K : PySem.W.Frag} {M : MS} {F H : Hp} {σ : St} {τ : T} (s : SRel K M F H σ τ) (i : Nat) : SRel K M F H σ (τ.set i .no) := by
  have ne : ∀ {j : Nat} {sl : Sl}, (τ.set i .no)[j]? = some sl → sl ≠ .no → τ[j]? = some sl := fun {j sl} e n => by
    by_cases q : i = j
    · subst q
      rw [List.getElem?_set] at e
      simp only [if_true] at e
      split at e
      · exact absurd (Option.some.inj e).symm n
      · cases e
    · rw [List.getElem?_set_ne q] at e; exact e
  refine ⟨by simpa using s.len, s.up, s.sub, fun j d e => s.val j d (ne e (fun z => nomatch z)), fun j sl ov e1 e2 => s.own j sl ov (ne e1 (fun z => by subst z; cases e2)) e2, fun j k sl tl b e1 m1 e2 m2 => s.apart j k sl tl b (ne e1 (fun z => by subst z; exact m1 rfl)) m1 (ne e2 (fun z => by subst z; exact m2 rfl)) m2, fun j o e => s.io j o (ne e (fun z => nomatch z))⟩
theorem SRel.own_at {K : PySem.W.Frag} {M : MS} {F H : Hp} {σ : St} {τ : T} {i : Nat} {sl : Sl} {o : OV} (s : SRel K M F H σ τ) (e : τ[i]? = some sl) (m : sl.mut = some o) :
    ∃ a, σ[i]? = some (some (V.ref a)) ∧ OwnR K M F H σ (τ.set i .no) (.ref a) o := by
  obtain ⟨a, u, h1, h2, h3, h4, h5⟩ := s.own i sl o e m
  refine ⟨a, h1, a, u, rfl, h2, h3, h4, h5, fun j tl e2 m2 z => ?_⟩
  have hj : i ≠ j := fun q => by
    subst q
    rw [List.getElem?_set] at e2
    simp only [if_true] at e2
    split at e2
    · have := Option.some.inj e2
      subst this
      exact m2 rfl
    · cases e2
  rw [List.getElem?_set_ne hj] at e2
  exact hj (s.apart i j sl tl a e (by rw [m]; exact fun z => nomatch z) e2 m2 h1 z)
theorem jx_var {i : Nat} {x : Str} (h : PE X (.Name x pos) (tVar i)) : JX px W X (.Name x pos) (sVar i) := by
  refine PE.imp (pe_lock h) fun σ H Q ⟨M, F, τ, s, p⟩ => ?_
  unfold sVar at p
  cases e : τ[i]? with
  | none => rw [e] at p; exact p.elim
  | some sl =>
    rw [e] at p
    cases sl with
    | no => exact p.elim
    | io o => exact p.elim
    | val d =>
      obtain ⟨v, hv, r⟩ := s.val i d e
      exact ⟨v, hv, .inl (p F H .refl s v r)⟩
    | own o =>
      obtain ⟨a, hv, ow⟩ := s.own_at e rfl
      refine ⟨_, hv, own_lk (s.drop i) ow fun F' H' g s' rw' => ?_⟩
      exact p F' H' g (s'.sealed (o := o) hv rw') _ rw'
end
end U
end

section
set_option Elab.async false
set_option linter.all false
set_option maxRecDepth 100000
namespace U
open PySem PySem.Spec PyProof.Rows L2

/-! ### operands: frozen values, or owned objects looked at where they stand -/
inductive BR where
  | d (z : D)
  | sl (i : Nat)
def Sl.seen : Sl → Option D
  | .val d => some d
  | .own o => some o.toD
  | .io o => some o.toD
  | .no => none
def BR.at (b : BR) (τ : T) : Option D := match b with
  | .d z => some z
  | .sl i => match τ[i]? with
    | some s => s.seen
    | none => none
def BRep (K : PySem.W.Frag) (F : Hp) (σ : St) (v : V) (b : BR) : Prop := match b with
  | .d z => Rep K F v z
  | .sl i => σ[i]? = some (some v)
def rdB (K : PySem.W.Frag) (px : PX) (W : WX) (f : T → Rs BR) : TE := fun σ H Q => ∃ M F τ, SRel K M F H σ τ ∧ Post K px W M F H σ (f τ) fun b _ F' H' => ∀ v, BRep K F' σ v b → Q v H'
def JB (px : PX) (W : WX) (X : Cx) (e : Expr) (f : T → Rs BR) : Prop := PE X e (rdB X.K px W f)
section
variable {K : PySem.W.Frag} {px : PX} {W : WX} {M : MS} {F H F1 H1 : Hp} {σ : St} {τ : T}
theorem BRep.mono {v : V} {b : BR} (h : BRep K F σ v b) (e : Sub F F1) : BRep K F1 σ v b := by
  cases b with
  | d z => exact Rep.mono e h
  | sl i => exact h
theorem BRep.now {v : V} {b : BR} {z : D} (s : SRel K M F H σ τ) (h : BRep K F σ v b) (e : b.at τ = some z) : Now K F H v z := by
  cases b with
  | d y => cases e; exact .inl h
  | sl i =>
    have hv : σ[i]? = some (some v) := h
    have own : ∀ (sl : Sl) (o : OV), τ[i]? = some sl → sl.mut = some o → Now K F H v o.toD := fun sl o q e1 => by
      obtain ⟨a, u, h1, h2, h3, h4, h5⟩ := s.own i sl o q e1
      rw [h1] at hv
      cases hv
      exact .inr ⟨a, u, o, rfl, h2, h5, rfl⟩
    have e : (match τ[i]? with
      | some s => s.seen
      | none => none) = some z := e
    cases q : τ[i]? with
    | none => rw [q] at e; cases e
    | some sl =>
      rw [q] at e
      cases sl with
      | no => cases e
      | val d =>
        cases e
        obtain ⟨w, h1, r⟩ := s.val i _ q
        rw [h1] at hv
        cases hv
        exact .inl r
      | own o => cases e; exact own _ o q rfl
      | io o => cases e; exact own _ o q rfl
theorem rdB_bind {α : Type} {fa : T → Rs BR} {k : BR → T → Rs α} {R : α → T → Hp → Hp → Prop} {Q : VK} (s : SRel K M F H σ τ) (p : Post K px W M F H σ ((fa τ).bind k) R)
    (h : ∀ b τ1 F1 H1 v, Grow M F H F1 H1 → SRel K M F1 H1 σ τ1 → BRep K F1 σ v b → Post K px W M F1 H1 σ (k b τ1) R → Q v H1) : rdB K px W fa σ H Q :=
  ⟨M, F, τ, s, p.bind.imp fun d τ1 F1 H1 g s1 q v r => h d τ1 F1 H1 v g s1 r q⟩
end
def toB (f : T → Rs D) : T → Rs BR := fun τ => (f τ).bind fun z τ' => .ok (.d z) τ'
theorem JE.b {px : PX} {W : WX} {X : Cx} {e : Expr} {f : T → Rs D} (h : JE px W X e f) : JB px W X e (toB f) :=
  PE.imp h fun σ H Q ⟨M, F, τ, s, p⟩ => ⟨M, F, τ, s, p.bind.imp fun r τ1 F1 H1 g s1 q v rv => q F1 H1 .refl s1 v rv⟩
def sPk (i : Nat) : T → Rs BR := fun τ => match τ[i]? with
  | some s => if s.mut.isSome then .ok (.sl i) τ else .stuck
  | none => .stuck
theorem jb_pk {px : PX} {W : WX} {X : Cx} {pos : Pos} {i : Nat} {x : Str} (h : PE X (.Name x pos) (tVar i)) : JB px W X (.Name x pos) (sPk i) := by
  refine PE.imp h fun σ H Q ⟨M, F, τ, s, p⟩ => ?_
  unfold sPk at p
  cases e : τ[i]? with
  | none => rw [e] at p; exact p.elim
  | some sl =>
    rw [e] at p
    cases q : sl.mut with
    | none => simp [q] at p; exact p.elim
    | some o =>
      simp only [q, Option.isSome_some, if_true] at p
      obtain ⟨a, u, h1, _⟩ := s.own i sl o e q
      exact ⟨_, h1, p F H .refl s _ h1⟩

/-- a variable as an operand -/
def sRd (i : Nat) : T → Rs BR := fun τ => match τ[i]? with
  | some (.val d) => .ok (.d d) τ
  | some (.own _) => .ok (.sl i) τ
  | some (.io _) => .ok (.sl i) τ
  | _ => .stuck
theorem jb_rd {px : PX} {W : WX} {X : Cx} {pos : Pos} {i : Nat} {x : Str} (h : PE X (.Name x pos) (tVar i)) : JB px W X (.Name x pos) (sRd i) := by
  refine PE.imp h fun σ H Q ⟨M, F, τ, s, p⟩ => ?_
  unfold sRd at p
  cases e : τ[i]? with
  | none => rw [e] at p; exact p.elim
  | some sl =>
    rw [e] at p
    cases sl with
    | no => exact p.elim
    | val d => obtain ⟨v, h1, r⟩ := s.val i d e; exact ⟨_, h1, p F H .refl s _ r⟩
    | own o => obtain ⟨a, u, h1, _⟩ := s.own i _ o e rfl; exact ⟨_, h1, p F H .refl s _ h1⟩
    | io o => obtain ⟨a, u, h1, _⟩ := s.own i _ o e rfl; exact ⟨_, h1, p F H .refl s _ h1⟩
def ap2 (g : D → D → Option PR) (x y : BR) (τ : T) : Rs PR := match x.at τ, y.at τ with
  | some d, some e => (match g d e with | some r => .ok r τ | none => .stuck)
  | _, _ => .stuck
theorem ap2_ok {K : PySem.W.Frag} {px : PX} {W : WX} {M : MS} {F H : Hp} {σ : St} {τ : T} {g : D → D → Option PR} {x y : BR} {R : PR → T → Hp → Hp → Prop} (p : Post K px W M F H σ (ap2 g x y τ) R) :
    ∃ d e r, x.at τ = some d ∧ y.at τ = some e ∧ g d e = some r ∧ Post K px W M F H σ (.ok r τ) R := by
  unfold ap2 at p
  cases e1 : x.at τ with
  | none => rw [e1] at p; exact p.elim
  | some d => cases e2 : y.at τ with
    | none => rw [e1, e2] at p; exact p.elim
    | some e =>
      rw [e1, e2] at p
      cases e3 : g d e with
      | none => simp only [e3] at p; exact p.elim
      | some r => simp only [e3] at p; exact ⟨d, e, r, rfl, rfl, e3, p⟩
def sOp2 (g : D → D → Option PR) (fa fb : T → Rs BR) : T → Rs PR := fun τ => (fa τ).bind fun x τ1 => (fb τ1).bind fun y τ2 => ap2 g x y τ2
section
variable {px : PX} {W : WX} {X : Cx} {pos : Pos} {a b : Expr} {fa fb : T → Rs BR} {g : D → D → Option PR}
theorem rd_op2 {K : PySem.W.Frag} {σ : St} {H : Hp} {Q : VK} (h : rdX K px W (sOp2 g fa fb) σ H Q) : tOp (r2 K g) (rdB K px W fa) (rdB K px W fb) σ H Q := by
  obtain ⟨M, F, τ, s, p⟩ := h
  refine rdB_bind s p fun x τ1 F1 H1 v g1 s1 rv p1 => rdB_bind s1 p1 fun y τ2 F2 H2 w g2 s2 rw' p2 => ?_
  obtain ⟨d, e, r, e1, e2, e3, p3⟩ := ap2_ok p2
  exact ⟨F2, d, e, r, s2.sub, (rv.mono g2.frz).now s2 e1, rw'.now s2 e2, e3, p3.pw s2⟩
theorem jx_bin {op : Operator} (ho : OpR X (binaryOp op) (r2 X.K g)) (ha : JB px W X a fa) (hb : JB px W X b fb) : JX px W X (.BinOp a op b pos) (sOp2 g fa fb) :=
  PE.imp (pe_op ho ha hb) fun _ _ _ h => rd_op2 h
theorem jx_cmp {op : CmpOp} (ho : OpR X (compareOp op) (r2 X.K g)) (ha : JB px W X a fa) (hb : JB px W X b fb) (hm : behindInMarks op b = false) : JX px W X (.Compare a [op] [b] pos) (sOp2 g fa fb) :=
  PE.imp (pe_cmpR ho ha hb hm) fun _ _ _ h => rd_op2 h
theorem jx_ix (hr : IxR X (r2 X.K g)) (ha : JB px W X a fa) (hb : JB px W X b fb) (hs : PlainIx b) : JX px W X (.Subscript a b pos) (sOp2 g fa fb) :=
  PE.imp (pe_ix hr ha hb hs) fun _ _ _ h => rd_op2 h
/-- a value as a test: its truth -/
def sTru (f : T → Rs BR) : T → Rs Bool := fun τ => (f τ).bind fun x τ1 => match x.at τ1 with
  | some d => (match d.truth with | some b => .ok b τ1 | none => .stuck)
  | none => .stuck
/-- a comparison as a test -/
def sTB (f : T → Rs PR) : T → Rs Bool := fun τ => (f τ).bind fun r τ1 => match r with
  | .d (.bl b) => .ok b τ1
  | _ => .stuck
theorem rd_tb {K : PySem.W.Frag} {σ : St} {H : Hp} {f : T → Rs PR} {Q : Bool → Hp → Prop} (h : rdT K px W (sTB f) σ H Q) : rdX K px W f σ H (fun x H1 => ∃ k, x = .bl k ∧ Q k H1) := by
  obtain ⟨M, F, τ, s, p⟩ := h
  refine ⟨M, F, τ, s, p.bind.imp fun r τ1 F1 H1 g1 s1 q => ?_⟩
  cases r with
  | o z => exact q.elim
  | d z => cases z with
    | bl c => exact fun v rv => by cases rv; exact ⟨c, rfl, q F1 H1 .refl s1⟩
    | _ => exact q.elim
theorem jt_cmp {op : CmpOp} (ho : OpR X (compareOp op) (r2 X.K g)) (ha : JB px W X a fa) (hb : JB px W X b fb) (hm : behindInMarks op b = false) : JT px W X (.Compare a [op] [b] pos) (sTB (sOp2 g fa fb)) :=
  PT.imp (pt_cmpR ho ha hb hm) fun _ _ _ h => rd_op2 (rd_tb h)
theorem jt_truth (ha : JB px W X a fa) (he : ∀ whole, isTrue a X.env whole = (do let v ← whole; standAt a.pos; holding [v] (truthy v))) : JT px W X a (sTru fa) := by
  refine PT.imp (pt_truth ha he) fun σ H Q ⟨M, F, τ, s, p⟩ => rdB_bind s p fun x τ1 F1 H1 v g1 s1 rv p1 => ?_
  cases e1 : x.at τ1 with
  | none => simp only [e1] at p1; exact p1.elim
  | some d =>
    cases e2 : d.truth with
    | none => simp only [e1, e2] at p1; exact p1.elim
    | some b =>
      simp only [e1, e2] at p1
      exact ⟨b, truth_of s1.sub (rv.now s1 e1) e2, p1 F1 H1 .refl s1⟩

variable {ta tb : T → Rs Bool} {rest : List Expr}
def sAnd (ta tb : T → Rs Bool) : T → Rs Bool := fun τ => (ta τ).bind fun c τ1 => if c then tb τ1 else .ok false τ1
def sOr (ta tb : T → Rs Bool) : T → Rs Bool := fun τ => (ta τ).bind fun c τ1 => if c then .ok true τ1 else tb τ1
def sNot (ta : T → Rs Bool) : T → Rs Bool := fun τ => (ta τ).bind fun c τ1 => .ok (!c) τ1
def JW (px : PX) (W : WX) (X : Cx) (e : Expr) (f : T → Rs Bool) : Prop := L2.PW X e (rdT X.K px W f)
theorem PW.imp' {X : Cx} {e : Expr} {t t' : TT} (h : L2.PW X e t) (i : ∀ σ H Q, t' σ H Q → t σ H Q) : L2.PW X e t' := ⟨fun wh pins s σ H Q I q => h.run wh pins s σ H Q I (i _ _ _ q)⟩
theorem jw_and1 (ha : JT px W X a ta) : JW px W X (.BoolOp .And [a] pos) ta := pw_and1 ha
theorem jw_or1 (ha : JT px W X a ta) : JW px W X (.BoolOp .Or [a] pos) ta := pw_or1 ha
theorem jw_and (ha : JT px W X a ta) (hb : JW px W X (.BoolOp .And (b :: rest) pos) tb) : JW px W X (.BoolOp .And (a :: b :: rest) pos) (sAnd ta tb) :=
  PW.imp' (pw_and ha hb) fun σ H Q ⟨M, F, τ, s, p⟩ => rdT_bind s p fun c τ1 F1 H1 g1 s1 q => by
    cases c with
    | true => exact ⟨M, F1, τ1, s1, q⟩
    | false => exact q F1 H1 .refl s1
theorem jw_or (ha : JT px W X a ta) (hb : JW px W X (.BoolOp .Or (b :: rest) pos) tb) : JW px W X (.BoolOp .Or (a :: b :: rest) pos) (sOr ta tb) :=
  PW.imp' (pw_or ha hb) fun σ H Q ⟨M, F, τ, s, p⟩ => rdT_bind s p fun c τ1 F1 H1 g1 s1 q => by
    cases c with
    | false => exact ⟨M, F1, τ1, s1, q⟩
    | true => exact q F1 H1 .refl s1
theorem JW.t {e : Expr} {f : T → Rs Bool} (h : JW px W X e f) : JT px W X e f := L2.PW.pt h
theorem jt_not (ha : JT px W X a ta) : JT px W X (.UnaryOp .Not a pos) (sNot ta) :=
  PT.imp (pt_not ha) fun σ H Q ⟨M, F, τ, s, p⟩ => rdT_bind s p fun c τ1 F1 H1 g1 s1 q => q F1 H1 .refl s1
end
end U
end

section
set_option Elab.async false
set_option linter.all false
set_option maxRecDepth 100000
namespace U
open PySem PySem.Spec PyProof.Rows L2

section
variable {px : PX} {W : WX} {X : Cx} {pos : Pos} {a b c : Expr} {rest : List Expr}
/-! ### and, or, not as values; a if t else b -/
/-- the truth of a result as it comes: frozen, or an owned one -/
def PR.truth (r : PR) : Option Bool := r.toD.truth
def sAndV (f g : T → Rs PR) : T → Rs PR := fun τ => (f τ).bind fun r τ1 => match r.truth with
  | some true => g τ1
  | some false => .ok r τ1
  | none => .stuck
def sOrV (f g : T → Rs PR) : T → Rs PR := fun τ => (f τ).bind fun r τ1 => match r.truth with
  | some true => .ok r τ1
  | some false => g τ1
  | none => .stuck
def sNotV (f : T → Rs PR) : T → Rs PR := fun τ => (f τ).bind fun r τ1 => match r.truth with
  | some k => .ok (.d (.bl (!k))) τ1
  | none => .stuck
theorem rdX_bind {K : PySem.W.Frag} {M : MS} {F H : Hp} {σ : St} {τ : T} {α : Type} {fa : T → Rs PR} {k : PR → T → Rs α} {R : α → T → Hp → Hp → Prop} {Q : VK} (s : SRel K M F H σ τ) (p : Post K px W M F H σ ((fa τ).bind k) R)
    (h : ∀ r τ1 F1 H1 v, Grow M F H F1 H1 → SRel K M F1 H1 σ τ1 → (match r with | .d z => Rep K F1 v z | .o z => OwnR K M F1 H1 σ τ1 v z) → Post K px W M F1 H1 σ (k r τ1) R → Q v H1) : rdX K px W fa σ H Q :=
  ⟨M, F, τ, s, p.bind.imp fun r τ1 F1 H1 g s1 q => by
    cases r with
    | d z => exact fun v rv => h (.d z) τ1 F1 H1 v g s1 rv q
    | o z => exact fun v rv => h (.o z) τ1 F1 H1 v g s1 rv q⟩
theorem now_pr {K : PySem.W.Frag} {M : MS} {F H : Hp} {σ : St} {τ : T} {r : PR} {v : V} (h : match r with | .d z => Rep K F v z | .o z => OwnR K M F H σ τ v z) : Now K F H v r.toD := by
  cases r with
  | d z => exact .inl h
  | o z =>
    obtain ⟨x, u, rfl, hu, _, _, ho, _⟩ := h
    exact .inr ⟨x, u, z, rfl, hu, ho, rfl⟩
theorem back_pr {K : PySem.W.Frag} {M : MS} {F H : Hp} {σ : St} {τ : T} {r : PR} {v : V} {Q : VK} (s : SRel K M F H σ τ) (h : match r with | .d z => Rep K F v z | .o z => OwnR K M F H σ τ v z)
    (p : Post K px W M F H σ (.ok r τ) (RX K M σ Q)) : Q v H := by
  cases r with
  | d z => exact p F H .refl s v h
  | o z => exact p F H .refl s v h
theorem jx_one {op : BoolOp} {f : T → Rs PR} (h : JX px W X a f) : JX px W X (.BoolOp op [a] pos) f := pe_one h
theorem jx_and {f g : T → Rs PR} (ha : JX px W X a f) (hb : JX px W X (.BoolOp .And (b :: rest) pos) g) : JX px W X (.BoolOp .And (a :: b :: rest) pos) (sAndV f g) := by
  refine PE.imp (pe_andT ha hb) fun σ H Q ⟨M, F, τ, s, p⟩ => rdX_bind s p fun r τ1 F1 H1 v g1 s1 rv p1 => ?_
  cases e : r.truth with
  | none => simp only [e] at p1; exact p1.elim
  | some k =>
    refine ⟨k, truth_of s1.sub (now_pr rv) e, ?_⟩
    cases k with
    | true => simp only [e] at p1; exact ⟨M, F1, τ1, s1, p1⟩
    | false => simp only [e] at p1; exact back_pr s1 rv p1
theorem jx_or {f g : T → Rs PR} (ha : JX px W X a f) (hb : JX px W X (.BoolOp .Or (b :: rest) pos) g) : JX px W X (.BoolOp .Or (a :: b :: rest) pos) (sOrV f g) := by
  refine PE.imp (pe_orT ha hb) fun σ H Q ⟨M, F, τ, s, p⟩ => rdX_bind s p fun r τ1 F1 H1 v g1 s1 rv p1 => ?_
  cases e : r.truth with
  | none => simp only [e] at p1; exact p1.elim
  | some k =>
    refine ⟨k, truth_of s1.sub (now_pr rv) e, ?_⟩
    cases k with
    | false => simp only [e] at p1; exact ⟨M, F1, τ1, s1, p1⟩
    | true => simp only [e] at p1; exact back_pr s1 rv p1
theorem jx_not {f : T → Rs PR} (ha : JX px W X a f) : JX px W X (.UnaryOp .Not a pos) (sNotV f) := by
  refine PE.imp (pe_notT ha) fun σ H Q ⟨M, F, τ, s, p⟩ => rdX_bind s p fun r τ1 F1 H1 v g1 s1 rv p1 => ?_
  cases e : r.truth with
  | none => simp only [e] at p1; exact p1.elim
  | some k =>
    simp only [e] at p1
    exact ⟨k, truth_of s1.sub (now_pr rv) e, p1 F1 H1 .refl s1 _ (.bl _)⟩
def sIte (t : T → Rs Bool) (f g : T → Rs PR) : T → Rs PR := fun τ => (t τ).bind fun k τ1 => if k then f τ1 else g τ1
theorem jx_ife {t : T → Rs Bool} {f g : T → Rs PR} (hc : JT px W X c t) (ha : JX px W X a f) (hb : JX px W X b g) : JX px W X (.IfExp c a b pos) (sIte t f g) :=
  PE.imp (pe_ifExp hc ha hb) fun σ H Q ⟨M, F, τ, s, p⟩ => rdT_bind s p fun k τ1 F1 H1 g1 s1 q => by
    cases k with
    | true => exact ⟨M, F1, τ1, s1, q⟩
    | false => exact ⟨M, F1, τ1, s1, q⟩
/-- -e -/
def sNeg (f : T → Rs D) : T → Rs PR := fun τ => (f τ).bind fun d τ1 => match d with
  | .int i => .ok (.d (.int (-i))) τ1
  | _ => .stuck
theorem jx_neg {f : T → Rs D} (ha : JE px W X a f) : JX px W X (.UnaryOp .USub a pos) (sNeg f) :=
  PE.imp (pe_un un_neg ha) fun σ H Q ⟨M, F, τ, s, p⟩ => rdE_bind s p fun d τ1 F1 H1 v g1 s1 rv q => by
    cases d <;> first | exact q.elim | skip
    cases rv
    exact ⟨_, rfl, q F1 H1 .refl s1 _ (.int _)⟩

/-! ### lists of arguments, displays -/
variable {e : Expr} {es : List Expr}
def sNil : T → Rs (List D) := fun τ => .ok [] τ
def sCons (f : T → Rs D) (g : T → Rs (List D)) : T → Rs (List D) := fun τ => (f τ).bind fun d τ1 => (g τ1).bind fun ds τ2 => .ok (d :: ds) τ2
def sStar (f : T → Rs BR) (g : T → Rs (List D)) : T → Rs (List D) := fun τ => (f τ).bind fun x τ1 => match x.at τ1 with
  | some (.tup xs) => (g τ1).bind fun ds τ2 => .ok (xs ++ ds) τ2
  | some (.lst xs) => (g τ1).bind fun ds τ2 => .ok (xs ++ ds) τ2
  | _ => .stuck
theorem ja_nil : JA px W X [] sNil := PA.imp pa_nil fun σ H Q ⟨M, F, τ, s, p⟩ => p F H .refl s _ .nil
theorem ja_cons {f : T → Rs D} {g : T → Rs (List D)} (ha : JE px W X e f) (hr : JA px W X es g) (hs : starEach (e :: es) X.env = (false, eval e X.env) :: starEach es X.env) : JA px W X (e :: es) (sCons f g) :=
  PA.imp (pa_cons ha hr hs) fun σ H Q ⟨M, F, τ, s, p⟩ => rdE_bind s p fun d τ1 F1 H1 v g1 s1 rv p1 => rdA_bind s1 p1 fun ds τ2 F2 H2 vs g2 s2 rvs p2 => p2 F2 H2 .refl s2 _ (.cons (rv.mono g2.frz) rvs)
theorem ja_star {sp : Pos} {f : T → Rs BR} {g : T → Rs (List D)} (ha : JB px W X e f) (hr : JA px W X es g) (hs : starEach (.Starred e sp :: es) X.env = (true, eval e X.env) :: starEach es X.env) : JA px W X (.Starred e sp :: es) (sStar f g) := by
  refine PA.imp (StX.pa_star ha hr hs) fun σ H Q ⟨M, F, τ, s, p⟩ => rdB_bind s p fun x τ1 F1 H1 v g1 s1 rv p1 => ?_
  cases e1 : x.at τ1 with
  | none => simp only [e1] at p1; exact p1.elim
  | some d =>
    have n := rv.now s1 e1
    cases d <;> first | (simp only [e1] at p1; exact p1.elim) | skip
    · obtain ⟨l, ws, rfl, hl, r1⟩ := n.tup s1.sub
      simp only [e1] at p1
      exact ⟨l, ws, rfl, .inl (.of hl), rdA_bind s1 p1 fun ds τ2 F2 H2 vs g2 s2 rvs p2 => p2 F2 H2 .refl s2 _ ((r1.mono g2.frz).append rvs)⟩
    · obtain ⟨l, ws, rfl, hl, r1⟩ := n.lst s1.sub
      simp only [e1] at p1
      exact ⟨l, ws, rfl, .inr (.of hl), rdA_bind s1 p1 fun ds τ2 F2 H2 vs g2 s2 rvs p2 => p2 F2 H2 .refl s2 _ ((r1.mono g2.frz).append rvs)⟩
def sTup (g : T → Rs (List D)) : T → Rs PR := fun τ => (g τ).bind fun ds τ1 => if ds.length ≤ lim then .ok (.d (.tup ds)) τ1 else .stuck
def sLst (g : T → Rs (List D)) : T → Rs PR := fun τ => (g τ).bind fun ds τ1 => if ds.length ≤ lim then .ok (.o (.l ds)) τ1 else .stuck
theorem jx_tup {n : Nat} {g : T → Rs (List D)} (h : JA px W X es g) : JX px W X (.Tuple es n pos) (sTup g) :=
  PE.imp (pe_tup h) fun σ H Q ⟨M, F, τ, s, p⟩ => rdA_bind s p fun ds τ1 F1 H1 vs g1 s1 rvs p1 => by
    by_cases c : ds.length ≤ lim
    · rw [if_pos c] at p1
      exact ⟨by rw [rvs.length]; exact lim_ok c, (p1.pw s1).tup s1.sub rvs⟩
    · rw [if_neg c] at p1; exact p1.elim
theorem jx_lst {g : T → Rs (List D)} (h : JA px W X es g) : JX px W X (.List es pos) (sLst g) :=
  PE.imp (pe_lst h) fun σ H Q ⟨M, F, τ, s, p⟩ => rdA_bind s p fun ds τ1 F1 H1 vs g1 s1 rvs p1 => by
    by_cases c : ds.length ≤ lim
    · rw [if_pos c] at p1
      exact ⟨by rw [rvs.length]; exact lim_ok c, (p1.pw s1).lst s1.sub rvs⟩
    · rw [if_neg c] at p1; exact p1.elim

/-! ### slices -/
def JOp (px : PX) (W : WX) (X : Cx) (e : Option Expr) (f : T → Rs (Option Int)) : Prop := PO X e (fun σ H Q => ∃ M F τ, SRel X.K M F H σ τ ∧ Post X.K px W M F H σ (f τ) fun o _ _ H' => Q o H')
def sNoP : T → Rs (Option Int) := fun τ => .ok none τ
def sSmP (f : T → Rs D) : T → Rs (Option Int) := fun τ => (f τ).bind fun d τ1 => match d with
  | .int i => .ok (some i) τ1
  | _ => .stuck
theorem PO.imp {e : Option Expr} {t t' : TO} (h : PO X e t) (i : ∀ σ H Q, t' σ H Q → t σ H Q) : PO X e t' := ⟨fun pins s σ H Q I q => h.run pins s σ H Q I (i _ _ _ q)⟩
theorem jo_none : JOp px W X none sNoP := PO.imp po_none fun σ H Q ⟨M, F, τ, s, p⟩ => p F H .refl s
theorem jo_some {f : T → Rs D} (h : JE px W X e f) : JOp px W X (some e) (sSmP f) :=
  PO.imp (po_some h) fun σ H Q ⟨M, F, τ, s, p⟩ => rdE_bind s p fun d τ1 F1 H1 v g1 s1 rv q => by
    cases d <;> first | exact q.elim | skip
    cases rv
    exact ⟨_, rfl, q F1 H1 .refl s1⟩
def sSl (f : T → Rs BR) (l u : T → Rs (Option Int)) : T → Rs PR := fun τ => (f τ).bind fun x τ1 => (l τ1).bind fun lo τ2 => (u τ2).bind fun hi τ3 => match x.at τ3 with
  | some d => (match gSl lo hi d with | some r => .ok r τ3 | none => .stuck)
  | none => .stuck
theorem jx_sl {lo hi : Option Expr} {p2 : Pos} {f : T → Rs BR} {l u : T → Rs (Option Int)} (ha : JB px W X a f) (hl : JOp px W X lo l) (hu : JOp px W X hi u) : JX px W X (.Subscript a (.Slice lo hi none p2) pos) (sSl f l u) := by
  refine PE.imp (pe_slice sl_U ha hl hu) fun σ H Q ⟨M, F, τ, s, p⟩ => rdB_bind s p fun x τ1 F1 H1 v g1 s1 rv p1 => ?_
  refine ⟨M, F1, τ1, s1, p1.bind.imp fun lo τ2 F2 H2 g2 s2 p2 => ⟨M, F2, τ2, s2, p2.bind.imp fun hi τ3 F3 H3 g3 s3 p3 => ?_⟩⟩
  cases e1 : x.at τ3 with
  | none => simp only [e1] at p3; exact p3.elim
  | some d =>
    cases e2 : gSl lo hi d with
    | none => simp only [e1, e2] at p3; exact p3.elim
    | some r =>
      simp only [e1, e2] at p3
      exact ⟨F3, d, r, s3.sub, (rv.mono (g2.frz.trans g3.frz)).now s3 e1, e2, p3.pw s3⟩

/-! ### built-in calls -/
/-- arguments that are looked at -/
inductive BRL (K : PySem.W.Frag) (F : Hp) (σ : St) : List V → List BR → Prop
  | nil : BRL K F σ [] []
  | cons {v : V} {vs : List V} {b : BR} {bs : List BR} : BRep K F σ v b → BRL K F σ vs bs → BRL K F σ (v :: vs) (b :: bs)
theorem BRL.mono {K : PySem.W.Frag} {F F' : Hp} {σ : St} (e : Sub F F') : ∀ {vs : List V} {bs : List BR}, BRL K F σ vs bs → BRL K F' σ vs bs
  | _, _, .nil => .nil
  | _, _, .cons h r => .cons (h.mono e) (r.mono e)
def atL : List BR → T → Option (List D)
  | [], _ => some []
  | b :: bs, τ => match b.at τ, atL bs τ with
    | some d, some ds => some (d :: ds)
    | _, _ => none
theorem BRL.now {K : PySem.W.Frag} {M : MS} {F H : Hp} {σ : St} {τ : T} (s : SRel K M F H σ τ) : ∀ {vs : List V} {bs : List BR} {ds : List D}, BRL K F σ vs bs → atL bs τ = some ds → NowL K F H vs ds
  | _, _, _, .nil, e => by cases e; exact .nil
  | _, _, _, .cons (b := b) (bs := bs) h r, e => by
    unfold atL at e
    cases e1 : b.at τ with
    | none => rw [e1] at e; cases e
    | some d => cases e2 : atL bs τ with
      | none => rw [e1, e2] at e; cases e
      | some ds => rw [e1, e2] at e; cases e; exact .cons (h.now s e1) (BRL.now s r e2)
def JAB (px : PX) (W : WX) (X : Cx) (es : List Expr) (f : T → Rs (List BR)) : Prop := PA X es (fun σ H Q => ∃ M F τ, SRel X.K M F H σ τ ∧ Post X.K px W M F H σ (f τ) fun bs _ F' H' => ∀ vs, BRL X.K F' σ vs bs → Q vs H')
def sBNil : T → Rs (List BR) := fun τ => .ok [] τ
def sBCons (f : T → Rs BR) (g : T → Rs (List BR)) : T → Rs (List BR) := fun τ => (f τ).bind fun d τ1 => (g τ1).bind fun ds τ2 => .ok (d :: ds) τ2
theorem jab_nil : JAB px W X [] sBNil := PA.imp pa_nil fun σ H Q ⟨M, F, τ, s, p⟩ => p F H .refl s _ .nil
theorem jab_cons {f : T → Rs BR} {g : T → Rs (List BR)} (ha : JB px W X e f) (hr : JAB px W X es g) (hs : starEach (e :: es) X.env = (false, eval e X.env) :: starEach es X.env) : JAB px W X (e :: es) (sBCons f g) :=
  PA.imp (pa_cons ha hr hs) fun σ H Q ⟨M, F, τ, s, p⟩ => rdB_bind s p fun d τ1 F1 H1 v g1 s1 rv p1 =>
    ⟨M, F1, τ1, s1, p1.bind.imp fun ds τ2 F2 H2 g2 s2 p2 vs rvs => p2 F2 H2 .refl s2 _ (.cons (rv.mono g2.frz) rvs)⟩
def sCB (g : List D → Option PR) (f : T → Rs (List BR)) : T → Rs PR := fun τ => (f τ).bind fun bs τ1 => match atL bs τ1 with
  | some ds => (match g ds with | some r => .ok r τ1 | none => .stuck)
  | none => .stuck
theorem rd_cb {K : PySem.W.Frag} {σ : St} {H : Hp} {Q : VK} {g : List D → Option PR} {f : T → Rs (List BR)} (h : rdX K px W (sCB g f) σ H Q) :
    (∃ M F τ, SRel K M F H σ τ ∧ Post K px W M F H σ (f τ) fun bs _ F' H' => ∀ vs, BRL K F' σ vs bs → rC K g vs H' Q) := by
  obtain ⟨M, F, τ, s, p⟩ := h
  refine ⟨M, F, τ, s, p.bind.imp fun bs τ1 F1 H1 g1 s1 p1 vs rvs => ?_⟩
  cases e1 : atL bs τ1 with
  | none => simp only [e1] at p1; exact p1.elim
  | some ds =>
    cases e2 : g ds with
    | none => simp only [e1, e2] at p1; exact p1.elim
    | some r =>
      simp only [e1, e2] at p1
      exact ⟨F1, ds, r, s1.sub, rvs.now s1 e1, e2, p1.pw s1⟩
theorem jx_callB {x : Str} {id : String} {p : Pos} {g : List D → Option PR} {f : T → Rs (List BR)} (hc : CallR X (.builtin id) (rC X.K g)) (hg : Gl X x) (hm : X.mg x = none) (hv : bootBuiltins x = some (.builtin id)) (ha : JAB px W X (e :: es) f)
    (hn : x ≠ "__name__") (hdb : (x == ("__debug__" : Str)) = false) (he : starEach (e :: es) X.env = (false, eval e X.env) :: starEach es X.env) (hpl : (backTo pos (starEach es X.env)).any (·.1) = false) :
    JX px W X (.Call (.Name x p) (e :: es) [] pos) (sCB g f) := PE.imp (pe_callB hc hg hm hv ha hn hdb he hpl) fun _ _ _ h => rd_cb h
theorem jx_callTy {x : Str} {id : String} {p : Pos} {g : List D → Option PR} {f : T → Rs (List BR)} (hc : CallR X (.type id) (rC X.K g)) (hg : Gl X x) (hm : X.mg x = none) (hv : bootBuiltins x = some (.type id)) (ha : JAB px W X (e :: es) f)
    (hn : x ≠ "__name__") (hdb : (x == ("__debug__" : Str)) = false) (he : starEach (e :: es) X.env = (false, eval e X.env) :: starEach es X.env) (hpl : (backTo pos (starEach es X.env)).any (·.1) = false) :
    JX px W X (.Call (.Name x p) (e :: es) [] pos) (sCB g f) := PE.imp (pe_callTy hc hg hm hv ha hn hdb he hpl) fun _ _ _ h => rd_cb h
end
end U
end

section
set_option Elab.async false
set_option linter.all false
set_option maxRecDepth 100000
namespace U
open PySem PySem.Spec PyProof.Rows L2

/-! ### slots written -/
theorem get_set {α : Type} {l : List α} {i j : Nat} {x y : α} (h : (l.set i x)[j]? = some y) : (j = i ∧ y = x ∧ i < l.length) ∨ (j ≠ i ∧ l[j]? = some y) := by
  by_cases q : i = j
  · subst q
    rw [List.getElem?_set] at h
    simp only [if_true] at h
    split at h
    · rename_i hl; exact .inl ⟨rfl, (Option.some.inj h).symm, hl⟩
    · cases h
  · rw [List.getElem?_set_ne q] at h
    exact .inr ⟨Ne.symm q, h⟩
def notIo (τ : T) (i : Nat) : Bool := match τ[i]? with
  | some (.io _) => false
  | some _ => true
  | none => false
theorem notIo_lt {τ : T} {i : Nat} (h : notIo τ i = true) : i < τ.length := by
  unfold notIo at h
  cases e : τ[i]? with
  | none => rw [e] at h; cases h
  | some s => exact (List.getElem?_eq_some_iff.mp e).1
section
variable {K : PySem.W.Frag} {px : PX} {W : WX} {M : MS} {F H F1 H1 : Hp} {σ : St} {τ : T}
theorem SRel.setv {i : Nat} {v : V} {d : D} (s : SRel K M F H σ τ) (h : notIo τ i = true) (r : Rep K F v d) : SRel K M F H (σ.set i (some v)) (τ.set i (.val d)) := by
  have hi := Nat.lt_of_lt_of_le (notIo_lt h) s.len
  refine ⟨by simpa using s.len, s.up, s.sub, fun j d' e => ?_, fun j sl ov e1 e2 => ?_, fun j k sl tl b e1 m1 e2 m2 f1 f2 => ?_, fun j o e => ?_⟩
  · rcases get_set e with ⟨rfl, q, _⟩ | ⟨n, e⟩
    · cases q; exact ⟨v, by rw [List.getElem?_set_self hi], r⟩
    · rw [List.getElem?_set_ne (Ne.symm n)]; exact s.val j d' e
  · rcases get_set e1 with ⟨rfl, rfl, _⟩ | ⟨n, e⟩
    · cases e2
    · rw [List.getElem?_set_ne (Ne.symm n)]; exact s.own j sl ov e e2
  · rcases get_set e1 with ⟨rfl, rfl, _⟩ | ⟨n1, e1⟩
    · exact absurd rfl m1
    · rcases get_set e2 with ⟨rfl, rfl, _⟩ | ⟨n2, e2⟩
      · exact absurd rfl m2
      · rw [List.getElem?_set_ne (Ne.symm n1)] at f1
        rw [List.getElem?_set_ne (Ne.symm n2)] at f2
        exact s.apart j k sl tl b e1 m1 e2 m2 f1 f2
  · rcases get_set e with ⟨rfl, q, _⟩ | ⟨n, e⟩
    · cases q
    · rw [List.getElem?_set_ne (Ne.symm n)]; exact s.io j o e
theorem SRel.seto {i : Nat} {v : V} {o : OV} (s : SRel K M F H σ τ) (h : notIo τ i = true) (r : OwnR K M F H σ τ v o) : SRel K M F H (σ.set i (some v)) (τ.set i (.own o)) := by
  have hi := Nat.lt_of_lt_of_le (notIo_lt h) s.len
  obtain ⟨a, u, rfl, hu, hf, hm, ho, hx⟩ := r
  refine ⟨by simpa using s.len, s.up, s.sub, fun j d' e => ?_, fun j sl ov e1 e2 => ?_, fun j k sl tl b e1 m1 e2 m2 f1 f2 => ?_, fun j o e => ?_⟩
  · rcases get_set e with ⟨rfl, q, _⟩ | ⟨n, e⟩
    · cases q
    · rw [List.getElem?_set_ne (Ne.symm n)]; exact s.val j d' e
  · rcases get_set e1 with ⟨rfl, rfl, _⟩ | ⟨n, e⟩
    · cases e2
      exact ⟨a, u, by rw [List.getElem?_set_self hi], hu, hf, hm, ho⟩
    · rw [List.getElem?_set_ne (Ne.symm n)]; exact s.own j sl ov e e2
  · rcases get_set e1 with ⟨rfl, rfl, _⟩ | ⟨n1, e1'⟩
    · rw [List.getElem?_set_self hi] at f1
      cases f1
      rcases get_set e2 with ⟨rfl, rfl, _⟩ | ⟨n2, e2⟩
      · rfl
      · rw [List.getElem?_set_ne (Ne.symm n2)] at f2
        exact absurd f2 (hx k tl e2 m2)
    · rw [List.getElem?_set_ne (Ne.symm n1)] at f1
      rcases get_set e2 with ⟨q, rfl, _⟩ | ⟨n2, e2'⟩
      · rw [q, List.getElem?_set_self hi] at f2
        cases f2
        exact absurd f1 (hx j sl e1' m1)
      · rw [List.getElem?_set_ne (Ne.symm n2)] at f2
        exact s.apart j k sl tl b e1' m1 e2' m2 f1 f2
  · rcases get_set e with ⟨rfl, q, _⟩ | ⟨n, e⟩
    · cases q
    · rw [List.getElem?_set_ne (Ne.symm n)]; exact s.io j o e
def Sl.put (s : Sl) (o : OV) : Sl := match s with
  | .io _ => .io o
  | _ => .own o
/-- an owned object is written -/
theorem SRel.write {i : Nat} {sl : Sl} {o o' : OV} {a : Addr} {u u' : HO} (s : SRel K M F H σ τ) (e : τ[i]? = some sl) (m : sl.mut = some o) (hv : σ[i]? = some (some (V.ref a))) (hu : H a = some u) (hf : F a = none) (hm : M.m a) (ho : OwnO K F o' u') :
    Grow M F H F (upd H a u') ∧ SRel K M F (upd H a u') σ (τ.set i (sl.put o')) := by
  have hi := (List.getElem?_eq_some_iff.mp e).1
  have mne : sl.mut ≠ none := by rw [m]; exact fun z => nomatch z
  have pm : (sl.put o').mut = some o' := by cases sl <;> rfl
  refine ⟨⟨fun b q => ?_, Sub.refl _, fun b w q n => ?_, fun b q _ _ => q⟩, by simpa using s.len, fun b q => ?_, fun b w q => ?_, fun j d' q => ?_, fun j tl ov e1 e2 => ?_, fun j k tl wl b e1 m1 e2 m2 f1 f2 => ?_, fun j o q => ?_⟩
  · by_cases c : b = a
    · rw [c, upd_same] at q; cases q
    · rw [upd_ne c] at q; exact q
  · rw [upd_ne (fun c => n (by rw [c]; exact hm))]; exact q
  · by_cases c : b = a
    · rw [c]; exact hm
    · rw [upd_ne c] at q; exact s.up b q
  · rw [upd_ne (fun c => by rw [c, hf] at q; cases q)]; exact s.sub b w q
  · rcases get_set q with ⟨rfl, z, _⟩ | ⟨n, q⟩
    · cases sl <;> cases z
    · exact s.val j d' q
  · rcases get_set e1 with ⟨rfl, rfl, _⟩ | ⟨n, e1⟩
    · rw [pm] at e2; cases e2
      exact ⟨a, u', hv, upd_same, hf, hm, ho⟩
    · obtain ⟨b, w, h1, h2, h3, h4, h5⟩ := s.own j tl ov e1 e2
      have ne : b ≠ a := fun c => n (s.apart j i tl sl a e1 (by rw [e2]; exact fun z => nomatch z) e mne (by rw [← c]; exact h1) hv)
      exact ⟨b, w, h1, by rw [upd_ne ne]; exact h2, h3, h4, h5⟩
  · have o1 : ∃ tl', τ[j]? = some tl' ∧ tl'.mut ≠ none := by
      rcases get_set e1 with ⟨rfl, rfl, _⟩ | ⟨n, e1⟩
      · exact ⟨sl, e, mne⟩
      · exact ⟨tl, e1, m1⟩
    have o2 : ∃ tl', τ[k]? = some tl' ∧ tl'.mut ≠ none := by
      rcases get_set e2 with ⟨rfl, rfl, _⟩ | ⟨n, e2⟩
      · exact ⟨sl, e, mne⟩
      · exact ⟨wl, e2, m2⟩
    obtain ⟨t1, a1, b1⟩ := o1
    obtain ⟨t2, a2, b2⟩ := o2
    exact s.apart j k t1 t2 b a1 b1 a2 b2 f1 f2
  · rcases get_set q with ⟨rfl, z, _⟩ | ⟨n, q⟩
    · cases sl <;> first | (cases z; done) | skip
      exact s.io j _ e
    · exact s.io j o q
end

/-! ### statements -/
inductive SR where
  | nx (t : T) | rt (r : PR) (t : T) | bk (t : T) | ct (t : T) | exc (x : Ex) (t : T) | stuck
def Rs.s {α : Type} (m : Rs α) (f : α → T → SR) : SR := match m with
  | .ok a t => f a t
  | .exc x t => .exc x t
  | .stuck => .stuck
def SPost (K : PySem.W.Frag) (px : PX) (W : WX) (M : MS) (F H : Hp) (D : Ends) : SR → Prop
  | .nx τ' => ∀ σ' F' H', Grow M F H F' H' → SRel K M F' H' σ' τ' → D.nx σ' H'
  | .bk τ' => ∀ σ' F' H', Grow M F H F' H' → SRel K M F' H' σ' τ' → D.bk σ' H'
  | .ct τ' => ∀ σ' F' H', Grow M F H F' H' → SRel K M F' H' σ' τ' → D.ct σ' H'
  | .rt (.d z) τ' => ∀ v σ' F' H', Grow M F H F' H' → SRel K M F' H' σ' τ' → Rep K F' v z → D.rt v H'
  | .rt (.o z) τ' => ∀ v σ' F' H', Grow M F H F' H' → SRel K M F' H' σ' τ' → OwnR K M F' H' σ' τ' v z → D.rt v H'
  | .exc x τ' => ∀ σ' F' H', Grow M F H F' H' → SRel K M F' H' σ' τ' → ∀ dd, XD K px F' H' x dd → W (.ref (px.cls x.c)) dd σ' H'
  | .stuck => False
def rdS (K : PySem.W.Frag) (px : PX) (W : WX) (f : T → SR) : TS := fun D σ H => ∃ M F τ, SRel K M F H σ τ ∧ SPost K px W M F H D (f τ)
def JS (px : PX) (W : WX) (X : Cx) (st : Stmt) (f : T → SR) : Prop := PS X st (rdS X.K px W f)
def JSs (px : PX) (W : WX) (X : Cx) (st : List Stmt) (f : T → SR) : Prop := PSs X st (rdS X.K px W f)
theorem PS.imp {X : Cx} {st : Stmt} {t t' : TS} (h : PS X st t) (i : ∀ D σ H, t' D σ H → t D σ H) : PS X st t' := ⟨fun pins s σ H D I q => h.run pins s σ H D I (i _ _ _ q)⟩
theorem PSs.imp {X : Cx} {st : List Stmt} {t t' : TS} (h : PSs X st t) (i : ∀ D σ H, t' D σ H → t D σ H) : PSs X st t' := ⟨fun pins s σ H D I q => h.run pins s σ H D I (i _ _ _ q)⟩
section
variable {K : PySem.W.Frag} {px : PX} {W : WX} {M : MS} {F H F1 H1 : Hp} {σ : St} {τ : T} {D : Ends}
theorem SPost.from {m : SR} (p : SPost K px W M F H D m) (g : Grow M F H F1 H1) : SPost K px W M F1 H1 D m := by
  cases m with
  | rt r t => cases r with
    | d z => exact fun v σ' F' H' g' s r => p v σ' F' H' (g.trans g') s r
    | o z => exact fun v σ' F' H' g' s r => p v σ' F' H' (g.trans g') s r
  | stuck => exact p
  | _ => exact fun σ' F' H' g' s => p σ' F' H' (g.trans g') s
/-- an expression, then the rest -/
theorem SPost.bind {α : Type} {m : Rs α} {k : α → T → SR} (p : SPost K px W M F H D (m.s k)) : Post K px W M F H σ m (fun a τ' F' H' => SPost K px W M F' H' D (k a τ')) := by
  cases m with
  | ok a t => exact fun F' H' g s => SPost.from p g
  | exc x t => exact fun F' H' g s => p σ F' H' g s
  | stuck => exact p
theorem rdE_s {fa : T → Rs U.D} {k : U.D → T → SR} {Q : VK} (s : SRel K M F H σ τ) (p : SPost K px W M F H D ((fa τ).s k))
    (h : ∀ d τ1 F1 H1 v, Grow M F H F1 H1 → SRel K M F1 H1 σ τ1 → Rep K F1 v d → SPost K px W M F1 H1 D (k d τ1) → Q v H1) : rdE K px W fa σ H Q :=
  ⟨M, F, τ, s, p.bind.imp fun d τ1 F1 H1 g s1 q v r => h d τ1 F1 H1 v g s1 r q⟩
theorem rdT_s {fa : T → Rs Bool} {k : Bool → T → SR} {Q : Bool → Hp → Prop} (s : SRel K M F H σ τ) (p : SPost K px W M F H D ((fa τ).s k))
    (h : ∀ d τ1 F1 H1, Grow M F H F1 H1 → SRel K M F1 H1 σ τ1 → SPost K px W M F1 H1 D (k d τ1) → Q d H1) : rdT K px W fa σ H Q :=
  ⟨M, F, τ, s, p.bind.imp fun d τ1 F1 H1 g s1 q => h d τ1 F1 H1 g s1 q⟩
theorem rdX_s {fa : T → Rs PR} {k : PR → T → SR} {Q : VK} (s : SRel K M F H σ τ) (p : SPost K px W M F H D ((fa τ).s k))
    (h : ∀ r τ1 F1 H1 v, Grow M F H F1 H1 → SRel K M F1 H1 σ τ1 → (match r with | .d z => Rep K F1 v z | .o z => OwnR K M F1 H1 σ τ1 v z) → SPost K px W M F1 H1 D (k r τ1) → Q v H1) : rdX K px W fa σ H Q :=
  ⟨M, F, τ, s, p.bind.imp fun r τ1 F1 H1 g s1 q => by
    cases r with
    | d z => exact fun v rv => h (.d z) τ1 F1 H1 v g s1 rv q
    | o z => exact fun v rv => h (.o z) τ1 F1 H1 v g s1 rv q⟩
end
def sNext : T → SR := fun τ => .nx τ
def SR.then (m : SR) (g : T → SR) : SR := match m with
  | .nx t => g t
  | m => m
def sSeq (f g : T → SR) : T → SR := fun τ => (f τ).then g
section
variable {px : PX} {W : WX} {X : Cx} {pos : Pos} {st : Stmt} {rest : List Stmt} {f g : T → SR}
theorem jss_nil : JSs px W X [] sNext := PSs.imp pss_nil fun D σ H ⟨M, F, τ, s, p⟩ => p σ F H .refl s
theorem SPost.imp {K : PySem.W.Frag} {M : MS} {F H : Hp} {D D' : Ends} {m : SR} (p : SPost K px W M F H D m) (hn : ∀ τ', m = .nx τ' → ∀ σ' F' H', Grow M F H F' H' → SRel K M F' H' σ' τ' → D.nx σ' H' → D'.nx σ' H')
    (hr : ∀ v H', D.rt v H' → D'.rt v H') (hb : ∀ σ' H', D.bk σ' H' → D'.bk σ' H') (hc : ∀ σ' H', D.ct σ' H' → D'.ct σ' H') : SPost K px W M F H D' m := by
  cases m with
  | nx t => exact fun σ' F' H' g s => hn t rfl σ' F' H' g s (p σ' F' H' g s)
  | bk t => exact fun σ' F' H' g s => hb _ _ (p σ' F' H' g s)
  | ct t => exact fun σ' F' H' g s => hc _ _ (p σ' F' H' g s)
  | rt r t => cases r with
    | d z => exact fun v σ' F' H' g s r => hr _ _ (p v σ' F' H' g s r)
    | o z => exact fun v σ' F' H' g s r => hr _ _ (p v σ' F' H' g s r)
  | exc x t => exact p
  | stuck => exact p
theorem jss_cons (h1 : JS px W X st f) (h2 : JSs px W X rest g) : JSs px W X (st :: rest) (sSeq f g) := by
  refine PSs.imp (pss_cons h1 h2) fun D σ H ⟨M, F, τ, s, p⟩ => ⟨M, F, τ, s, ?_⟩
  unfold sSeq at p
  cases e : f τ with
  | nx t =>
    rw [e] at p
    exact fun σ' F' H' g' s' => ⟨M, F', t, s', SPost.from p g'⟩
  | rt r t => rw [e] at p; cases r <;> exact p
  | bk t => rw [e] at p; exact p
  | ct t => rw [e] at p; exact p
  | exc x t => rw [e] at p; exact p
  | stuck => rw [e] at p; exact p
theorem jss_one (h1 : JS px W X st f) : JSs px W X [st] f := pss_one h1
theorem js_pass : JS px W X (.Pass pos) sNext := PS.imp ps_pass fun D σ H ⟨M, F, τ, s, p⟩ => p σ F H .refl s
theorem js_break : JS px W X (.Break pos) (fun τ => .bk τ) := PS.imp ps_break fun D σ H ⟨M, F, τ, s, p⟩ => p σ F H .refl s
theorem js_cont : JS px W X (.Continue pos) (fun τ => .ct τ) := PS.imp ps_continue fun D σ H ⟨M, F, τ, s, p⟩ => p σ F H .refl s
/-- an expression whose value is dropped -/
def sDrop (f : T → Rs PR) : T → SR := fun τ => (f τ).s fun _ τ1 => .nx τ1
theorem js_expr {e : Expr} {f : T → Rs PR} (h : JX px W X e f) (hs : swapsWith e none pos.line X.env = pure false) : JS px W X (.Expr e pos) (sDrop f) :=
  PS.imp (ps_expr h hs) fun D σ H ⟨M, F, τ, s, p⟩ => rdX_s s p fun r τ1 F1 H1 v g1 s1 rv q => q σ F1 H1 .refl s1
def sRet (f : T → Rs PR) : T → SR := fun τ => (f τ).s fun r τ1 => .rt r τ1
theorem js_ret {e : Expr} {f : T → Rs PR} (h : JX px W X e f) : JS px W X (.Return (some e) pos) (sRet f) :=
  PS.imp (ps_ret h) fun D σ H ⟨M, F, τ, s, p⟩ => rdX_s s p fun r τ1 F1 H1 v g1 s1 rv q => by
    cases r with
    | d z => exact q v σ F1 H1 .refl s1 rv
    | o z => exact q v σ F1 H1 .refl s1 rv
/-- an owned slot handed back -/
def sRetO (i : Nat) : T → SR := fun τ => match τ[i]? with
  | some (.own o) => .rt (.o o) (τ.set i .no)
  | _ => .stuck
theorem js_retO {x : Str} {xp : Pos} {i : Nat} (h : PE X (.Name x xp) (tVar i)) : JS px W X (.Return (some (.Name x xp)) pos) (sRetO i) :=
  PS.imp (ps_ret h) fun D σ H ⟨M, F, τ, s, p⟩ => by
    unfold sRetO at p
    cases e : τ[i]? with
    | none => rw [e] at p; exact p.elim
    | some sl =>
      rw [e] at p
      cases sl <;> first | exact p.elim | skip
      obtain ⟨a, hv, ow⟩ := s.own_at e rfl
      exact ⟨_, hv, p _ σ F H .refl (s.drop i) ow⟩
theorem js_ret0 : JS px W X (.Return none pos) (fun τ => .rt (.d .non) τ) := PS.imp ps_retN fun D σ H ⟨M, F, τ, s, p⟩ => p _ σ F H .refl s .non
def sIfS (t : T → Rs Bool) (f g : T → SR) : T → SR := fun τ => (t τ).s fun b τ1 => if b then f τ1 else g τ1
theorem js_if {c : Expr} {a b : List Stmt} {t : T → Rs Bool} (hc : JT px W X c t) (ha : JSs px W X a f) (hb : JSs px W X b g) : JS px W X (.If c a b pos) (sIfS t f g) :=
  PS.imp (ps_if hc ha hb) fun D σ H ⟨M, F, τ, s, p⟩ => rdT_s s p fun k τ1 F1 H1 g1 s1 q => by
    cases k with
    | true => exact ⟨M, F1, τ1, s1, q⟩
    | false => exact ⟨M, F1, τ1, s1, q⟩
/-- name = value -/
def PR.slot : PR → Sl
  | .d z => .val z
  | .o z => .own z
def putS (i : Nat) (r : PR) (τ : T) : SR := if notIo τ i then .nx (τ.set i r.slot) else .stuck
def sSet (i : Nat) (f : T → Rs PR) : T → SR := fun τ => (f τ).s fun r τ1 => putS i r τ1
theorem put_ok {K : PySem.W.Frag} {M : MS} {F H : Hp} {σ : St} {τ : T} {D : Ends} {i : Nat} {r : PR} {v : V} (s : SRel K M F H σ τ) (rv : match r with | .d z => Rep K F v z | .o z => OwnR K M F H σ τ v z) (p : SPost K px W M F H D (putS i r τ)) : D.nx (σ.set i (some v)) H := by
  unfold putS at p
  by_cases c : notIo τ i = true
  · rw [if_pos c] at p
    cases r with
    | d z => exact p _ F H .refl (s.setv c rv)
    | o z => exact p _ F H .refl (s.seto c rv)
  · rw [if_neg c] at p; exact p.elim
theorem js_asg {tg : Expr} {i : Nat} {e : Expr} {f : T → Rs PR} {te : TE} (h : PS X (.Assign [tg] e pos) (tAsg te (gName i))) (hi : ∀ σ H Q, rdX X.K px W f σ H Q → te σ H Q) : JS px W X (.Assign [tg] e pos) (sSet i f) :=
  PS.imp h fun D σ H ⟨M, F, τ, s, p⟩ => hi _ _ _ (rdX_s s p fun r τ1 F1 H1 v g1 s1 rv q => put_ok s1 rv q)
end
end U
end

section
set_option Elab.async false
set_option linter.all false
set_option maxRecDepth 100000
namespace U
open PySem PySem.Spec PyProof.Rows L2

/-! ### what is walked -/
structure Conf (K : PySem.W.Frag) (F : Hp) (J : It) (ds : List D) : Prop where
  go : ∀ i H', i < ds.length → Sub F H' → J.go i H'
  stop : ∀ H', Sub F H' → J.stop ds.length H'
  yld : ∀ (i : Nat) F' H' x H'' (d : D), ds[i]? = some d → Sub F F' → Sub F' H' → J.yld i H' x H'' → ∃ F'', New F' H' F'' H'' ∧ Rep K F'' x d
theorem Conf.mono {K : PySem.W.Frag} {F F1 : Hp} {J : It} {ds : List D} (c : Conf K F J ds) (e : Sub F F1) : Conf K F1 J ds :=
  ⟨fun i H' hi s => c.go i H' hi (e.trans s), fun H' s => c.stop H' (e.trans s), fun i F' H' x H'' d h s s' y => c.yld i F' H' x H'' d h (e.trans s) s' y⟩
def rdI (K : PySem.W.Frag) (px : PX) (W : WX) (f : T → Rs (List D)) : TI := fun σ H R => ∃ M F τ, SRel K M F H σ τ ∧ Post K px W M F H σ (f τ) fun ds _ F' H' => ∀ J, Conf K F' J ds → R J H'
def JI (px : PX) (W : WX) (X : Cx) (tg iter : Expr) (f : T → Rs (List D)) : Prop := PI X tg iter (rdI X.K px W f)
theorem PI.imp {X : Cx} {tg e : Expr} {t t' : TI} (h : PI X tg e t) (i : ∀ σ H Q, t' σ H Q → t σ H Q) : PI X tg e t' := ⟨fun pins s σ H Q I q => h.run pins s σ H Q I (i _ _ _ q)⟩
section
variable {K : PySem.W.Frag} {F H : Hp}
theorem conf_list {a : Addr} {vs : List V} {ds : List D} (h : F a = some (.lst vs)) (r : RepL K F vs ds) : Conf K F (Itl K a) ds := by
  refine ⟨fun i H' hi s => ?_, fun H' s => ⟨vs, .of (s _ _ h), by rw [r.length]; exact Nat.le_refl _⟩, fun i F' H' x H'' d e s s' y => ?_⟩
  · have hv : i < vs.length := by rw [r.length]; exact hi
    exact ⟨vs, vs[i], .of (s _ _ h), by simp [hv]⟩
  · obtain ⟨v, e1, rv⟩ := r.get e
    obtain ⟨rfl, y⟩ := y
    have := y vs (.of (s' _ _ (s _ _ h)))
    rw [e1] at this
    cases this
    exact ⟨F', .refl s', rv.mono s⟩
theorem conf_tup {a : Addr} {vs : List V} {ds : List D} (h : F a = some (.tup vs)) (r : RepL K F vs ds) : Conf K F (Itt K a) ds := by
  refine ⟨fun i H' hi s => ?_, fun H' s => ⟨vs, .of (s _ _ h), by rw [r.length]; exact Nat.le_refl _⟩, fun i F' H' x H'' d e s s' y => ?_⟩
  · have hv : i < vs.length := by rw [r.length]; exact hi
    exact ⟨vs, vs[i], .of (s _ _ h), by simp [hv]⟩
  · obtain ⟨v, e1, rv⟩ := r.get e
    obtain ⟨rfl, y⟩ := y
    have := y vs (.of (s' _ _ (s _ _ h)))
    rw [e1] at this
    cases this
    exact ⟨F', .refl s', rv.mono s⟩
theorem conf_range {lo : Int} {n : Nat} : Conf K F (Itr lo n) ((List.range n).map fun (i : Nat) => D.int (lo + (i : Int))) := by
  refine ⟨fun i H' hi s => by show i < n; simpa using hi, fun H' s => by show n ≤ _; simp, fun i F' H' x H'' d e s s' y => ?_⟩
  obtain ⟨rfl, rfl⟩ := y
  rw [List.getElem?_map] at e
  obtain ⟨j, e1, rfl⟩ := map_some e
  have : j = i := by
    rw [List.getElem?_range] at e1
    · exact (Option.some.inj e1).symm
    · obtain ⟨h, _⟩ := List.getElem?_eq_some_iff.mp e1
      simpa using h
  subst this
  exact ⟨F', .refl s', .int _⟩
theorem conf_str {x : List Nat} : Conf K F (Its (stO x)) (x.map fun c => D.str [c]) := by
  refine ⟨fun i H' hi s => by show i < x.toArray.size; simpa using hi, fun H' s => by show x.toArray.size ≤ _; simp, fun i F' H' v H'' d e s s' y => ?_⟩
  obtain ⟨rfl, c, hc, rfl⟩ := y
  rw [List.getElem?_map] at e
  obtain ⟨j, e1, rfl⟩ := map_some e
  have hc' : x[i]? = some c := by simpa using hc
  rw [hc'] at e1
  cases e1
  exact ⟨F', .refl s', .str [c]⟩
theorem keysOf_get : ∀ {ks : List D} {l : List Key} {i : Nat} {d : D}, keysOf ks = some l → ks[i]? = some d → ∃ k, l[i]? = some k ∧ d.key = some k
  | [], _, i, d, h, e => by simp at e
  | k :: ks, _, i, d, h, e => by
    obtain ⟨k', r, h1, h2, rfl⟩ := keys_cons h
    cases i with
    | zero => simp at e; subst e; exact ⟨k', rfl, h1⟩
    | succ i => exact keysOf_get (i := i) h2 (by simpa using e)
theorem keysTOf_get : ∀ {ks : List D} {l : List (List Key)} {i : Nat} {d : D}, keysTOf ks = some l → ks[i]? = some d → ∃ k, l[i]? = some k ∧ d.keyT = some k
  | [], _, i, d, h, e => by simp at e
  | k :: ks, _, i, d, h, e => by
    obtain ⟨k', r, h1, h2, rfl⟩ := keysT_cons h
    cases i with
    | zero => simp at e; subst e; exact ⟨k', rfl, h1⟩
    | succ i => exact keysTOf_get (i := i) h2 (by simpa using e)
theorem keysOf_len : ∀ {ks : List D} {l : List Key}, keysOf ks = some l → ks.length = l.length
  | [], _, h => by cases h; rfl
  | k :: ks, _, h => by obtain ⟨k', r, h1, h2, rfl⟩ := keys_cons h; simp [keysOf_len h2]
theorem keysTOf_len : ∀ {ks : List D} {l : List (List Key)}, keysTOf ks = some l → ks.length = l.length
  | [], _, h => by cases h; rfl
  | k :: ks, _, h => by obtain ⟨k', r, h1, h2, rfl⟩ := keysT_cons h; simp [keysTOf_len h2]
theorem key_back {d : D} {k : Key} (h : d.key = some k) : Rep K F (kV k) d := by
  cases d <;> first | (cases h; done) | skip
  · cases h; exact .int _
  · cases h; exact .str _
theorem keys_back : ∀ {ds : List D} {k : List Key}, keysOf ds = some k → RepL K F (k.map kV) ds
  | [], _, h => by cases h; exact .nil
  | d :: ds, _, h => by obtain ⟨k', r, h1, h2, rfl⟩ := keys_cons h; exact .cons (key_back h1) (keys_back h2)
theorem conf_dK {a : Addr} {o : Obj} {kvs : List (Key × V)} {ks : List D} (h : F a = some (.frz o (.dK kvs))) (k : keysOf ks = some (kvs.map (·.1))) : Conf K F (Itk a o kvs) ks := by
  have hl := keysOf_len k
  rw [List.length_map] at hl
  refine ⟨fun i H' hi s => ⟨s _ _ h, by rw [← hl]; exact hi⟩, fun H' s => ⟨s _ _ h, by rw [hl]; exact Nat.le_refl _⟩, fun i F' H' x H'' d e s s' y => ?_⟩
  obtain ⟨rfl, k', v, e1, rfl⟩ := y
  obtain ⟨k2, e2, e3⟩ := keysOf_get k e
  rw [List.getElem?_map, e1] at e2
  cases e2
  exact ⟨F', .refl s', key_back e3⟩
theorem keyT_shape {d : D} {k : List Key} (h : d.keyT = some k) : ∃ ds, d = .tup ds ∧ keysOf ds = some k := by
  cases d <;> first | (cases h; done) | exact ⟨_, rfl, h⟩
end
/-- the items of a value that is walked -/
def D.items : D → Option (List D)
  | .lst ds => some ds
  | .tup ds => some ds
  | .str x => some (x.map fun c => .str [c])
  | .dct false ks _ => some ks
  | _ => none
section
variable {px : PX} {W : WX} {X : Cx} {pos : Pos} {tg e : Expr}
theorem pi_any {te : TE} (he : PE X e te) : PI X tg e (fun σ H R => te σ H fun x H1 => (∃ a xs, x = .ref a ∧ SqL X.K H1 a xs ∧ R (Itl X.K a) H1) ∨ (∃ a xs, x = .ref a ∧ SqT X.K H1 a xs ∧ R (Itt X.K a) H1) ∨ (∃ z, x = .str z ∧ R (Its z) H1) ∨
    (∃ d o kvs, x = .ref d ∧ H1 d = some (.frz o (.dK kvs)) ∧ R (Itk d o kvs) H1)) := by
  refine ⟨fun pins s σ H R I h => thn (he.run pins s σ H _ I h) fun v s1 ⟨x, H1, I1, r1, q1⟩ => ?_⟩
  rcases q1 with ⟨a, xs, rfl, hq, q⟩ | ⟨a, xs, rfl, hq, q⟩ | ⟨z, rfl, q⟩ | ⟨d, o, kvs, rfl, hd, q⟩
  · cases r1
    obtain ⟨its, rv, p, hz⟩ := I1.list hq
    exact wpAny_pyIter_list p.isList (pi_one (tk := s1.toks) I1 _ (turn_list a _) ⟨_, Heap.get?_push_size _ rfl, rfl, rfl⟩ q)
  · cases r1
    obtain ⟨its, rv, p, hz⟩ := I1.tuple hq
    exact wpAny_pyIter_tuple (show s1.heap.IsTuple a its.toArray from p) (pi_one (tk := s1.toks) I1 _ (turn_tuple a _) ⟨_, Heap.get?_push_size _ rfl, rfl, rfl⟩ q)
  · obtain ⟨t, rfl⟩ := r1
    cases ha : z.cps.all (· < 128)
    · exact wpAny_pyIter_wide ha (pi_one (tk := s1.toks) I1 _ (turn_str _ z t "str_iterator" (.inr rfl)) ⟨_, Heap.get?_push_size _ rfl, rfl, rfl⟩ q)
    · exact wpAny_pyIter_ascii ha (pi_one (tk := s1.toks) I1 _ (turn_str _ z t "str_ascii_iterator" (.inl rfl)) ⟨_, Heap.get?_push_size _ rfl, rfl, rfl⟩ q)
  · cases r1
    obtain ⟨hs, hgd, hx, es, ep, vs, hdt, hsz, kv, hm⟩ := I1.frzK hd
    refine iter_keys hs hgd hx hdt (pi_one (tk := s1.toks) I1 _ (turn_keys _ hdt) ⟨_, Heap.get?_push_size _ rfl, rfl, ?_⟩ q)
    rw [hsz] <;> rfl
def sItems (f : T → Rs D) : T → Rs (List D) := fun τ => (f τ).bind fun d τ1 => match d.items with
  | some ds => .ok ds τ1
  | none => .stuck
theorem ji_any {f : T → Rs D} (h : JE px W X e f) : JI px W X tg e (sItems f) := by
  refine PI.imp (pi_any h) fun σ H R ⟨M, F, τ, s, p⟩ => rdE_bind s p fun d τ1 F1 H1 v g1 s1 rv p1 => ?_
  cases d with
  | lst ds =>
    cases rv with
    | lst h r => exact .inl ⟨_, _, rfl, .of (s1.sub _ _ h), p1 F1 H1 .refl s1 _ (conf_list h r)⟩
  | tup ds =>
    cases rv with
    | tup h r => exact .inr (.inl ⟨_, _, rfl, .of (s1.sub _ _ h), p1 F1 H1 .refl s1 _ (conf_tup h r)⟩)
  | str x =>
    cases rv
    exact .inr (.inr (.inl ⟨_, rfl, p1 F1 H1 .refl s1 _ conf_str⟩))
  | dct t ks vs =>
    cases rv with
    | dK h k r => exact .inr (.inr (.inr ⟨_, _, _, rfl, s1.sub _ _ h, p1 F1 H1 .refl s1 _ (conf_dK h k)⟩))
    | dT h k r => exact p1.elim
  | _ => exact p1.elim
/-- range(n), range(a, b) -/
def rng (lo : Int) (n : Nat) : List D := (List.range n).map fun (i : Nat) => D.int (lo + (i : Int))
def sRng1 (f : T → Rs (List D)) : T → Rs (List D) := fun τ => (f τ).bind fun ds τ1 => match ds with
  | [.int j] => if -(2 ^ 62) ≤ j ∧ j < 2 ^ 62 then .ok (rng 0 j.toNat) τ1 else .stuck
  | _ => .stuck
def sRng2 (f : T → Rs (List D)) : T → Rs (List D) := fun τ => (f τ).bind fun ds τ1 => match ds with
  | [.int i, .int j] => if -(2 ^ 62) ≤ i ∧ i < 2 ^ 62 ∧ -(2 ^ 62) ≤ j ∧ j < 2 ^ 62 then .ok (rng i (j - i).toNat) τ1 else .stuck
  | _ => .stuck
theorem ji_range1 {a : Expr} {p : Pos} {f : T → Rs (List D)} (hg : Gl X "range") (hm : X.mg "range" = none) (ha : JA px W X [a] f) (hs : starEach [a] X.env = [(false, eval a X.env)]) : JI px W X tg (.Call (.Name "range" p) [a] [] pos) (sRng1 f) := by
  refine PI.imp (pi_range1 hg hm ha hs) fun σ H R ⟨M, F, τ, s, q⟩ => rdA_bind s q fun ds τ1 F1 H1 vs g1 s1 rv p1 => ?_
  cases rv with
  | nil => exact p1.elim
  | cons h r =>
    cases h <;> first | exact p1.elim | skip
    cases r with
    | cons _ _ => exact p1.elim
    | nil =>
      rename_i j
      by_cases c : -(2 ^ 62) ≤ j ∧ j < 2 ^ 62
      · have p1 : Post X.K px W M F1 H1 σ (if -(2 ^ 62) ≤ j ∧ j < 2 ^ 62 then Rs.ok (rng 0 j.toNat) τ1 else .stuck) _ := p1
        rw [if_pos c] at p1
        exact ⟨j, rfl, c.1, c.2, p1 F1 H1 .refl s1 _ conf_range⟩
      · have p1 : Post X.K px W M F1 H1 σ (if -(2 ^ 62) ≤ j ∧ j < 2 ^ 62 then Rs.ok (rng 0 j.toNat) τ1 else .stuck) _ := p1
        rw [if_neg c] at p1; exact p1.elim
theorem ji_range2 {a b : Expr} {p : Pos} {f : T → Rs (List D)} (hg : Gl X "range") (hm : X.mg "range" = none) (ha : JA px W X [a, b] f) (hs : starEach [a, b] X.env = [(false, eval a X.env), (false, eval b X.env)]) (hs2 : starEach [b] X.env = [(false, eval b X.env)]) :
    JI px W X tg (.Call (.Name "range" p) [a, b] [] pos) (sRng2 f) := by
  refine PI.imp (pi_range2 hg hm ha hs hs2) fun σ H R ⟨M, F, τ, s, q⟩ => rdA_bind s q fun ds τ1 F1 H1 vs g1 s1 rv p1 => ?_
  cases rv with
  | nil => exact p1.elim
  | cons h r =>
    cases r with
    | nil => cases h <;> exact p1.elim
    | cons h2 r =>
      cases r with
      | cons _ _ => cases h <;> cases h2 <;> exact p1.elim
      | nil =>
        cases h <;> first | (cases h2 <;> exact p1.elim) | skip
        cases h2 <;> first | exact p1.elim | skip
        rename_i i j
        by_cases c : -(2 ^ 62) ≤ i ∧ i < 2 ^ 62 ∧ -(2 ^ 62) ≤ j ∧ j < 2 ^ 62
        · have p1 : Post X.K px W M F1 H1 σ (if -(2 ^ 62) ≤ i ∧ i < 2 ^ 62 ∧ -(2 ^ 62) ≤ j ∧ j < 2 ^ 62 then Rs.ok (rng i (j - i).toNat) τ1 else .stuck) _ := p1
          rw [if_pos c] at p1
          exact ⟨i, j, rfl, c, p1 F1 H1 .refl s1 _ conf_range⟩
        · have p1 : Post X.K px W M F1 H1 σ (if -(2 ^ 62) ≤ i ∧ i < 2 ^ 62 ∧ -(2 ^ 62) ≤ j ∧ j < 2 ^ 62 then Rs.ok (rng i (j - i).toNat) τ1 else .stuck) _ := p1
          rw [if_neg c] at p1; exact p1.elim
end
end U
end

section
set_option Elab.async false
set_option linter.all false
set_option maxRecDepth 100000
namespace U
open PySem PySem.Spec PyProof.Rows L2

/-! ### targets -/
/-- only the slots gs may change -/
def OnlyAt (gs : List Nat) (σ σ' : St) : Prop := σ'.length = σ.length ∧ ∀ i, i ∉ gs → σ'[i]? = σ[i]?
theorem OnlyAt.refl (gs : List Nat) (σ : St) : OnlyAt gs σ σ := ⟨rfl, fun _ _ => rfl⟩
theorem OnlyAt.trans {gs : List Nat} {σ σ1 σ2 : St} (a : OnlyAt gs σ σ1) (b : OnlyAt gs σ1 σ2) : OnlyAt gs σ σ2 := ⟨b.1.trans a.1, fun i h => (b.2 i h).trans (a.2 i h)⟩
theorem OnlyAt.mono {gs hs : List Nat} {σ σ1 : St} (a : OnlyAt gs σ σ1) (h : ∀ i ∈ gs, i ∈ hs) : OnlyAt hs σ σ1 := ⟨a.1, fun i n => a.2 i fun z => n (h i z)⟩
theorem OnlyAt.set {gs : List Nat} {σ : St} {i : Nat} {v : Option V} (h : i ∈ gs) : OnlyAt gs σ (σ.set i v) := ⟨by simp, fun j n => List.getElem?_set_ne fun e => n (by rw [← e]; exact h)⟩
def rdG (K : PySem.W.Frag) (gs : List Nat) (g : D → T → Option T) : TG := fun v σ H Q => ∃ M F τ d τ', SRel K M F H σ τ ∧ Rep K F v d ∧ g d τ = some τ' ∧ ∀ σ', OnlyAt gs σ σ' → SRel K M F H σ' τ' → Q σ' H
def rdGs (K : PySem.W.Frag) (gs : List Nat) (g : List D → T → Option T) : TGs := fun vs σ H Q => ∃ M F τ ds τ', SRel K M F H σ τ ∧ RepL K F vs ds ∧ g ds τ = some τ' ∧ ∀ σ', OnlyAt gs σ σ' → SRel K M F H σ' τ' → Q σ' H
def JG (X : Cx) (tg : Expr) (gs : List Nat) (g : D → T → Option T) : Prop := PG X tg (rdG X.K gs g)
def JGs (X : Cx) (ts : List Expr) (gs : List Nat) (g : List D → T → Option T) : Prop := PGs X ts (rdGs X.K gs g)
theorem PG.imp {X : Cx} {tg : Expr} {t t' : TG} (h : PG X tg t) (i : ∀ v σ H Q, t' v σ H Q → t v σ H Q) : PG X tg t' := ⟨fun pins s σ H v u Q I r q => h.run pins s σ H v u Q I r (i _ _ _ _ q)⟩
theorem PGs.imp {X : Cx} {tg : List Expr} {t t' : TGs} (h : PGs X tg t) (i : ∀ v σ H Q, t' v σ H Q → t v σ H Q) : PGs X tg t' := ⟨fun pins s σ H v u Q I r q => h.run pins s σ H v u Q I r (i _ _ _ _ q)⟩
theorem PG.or {X : Cx} {tg : Expr} {t t' : TG} (h : PG X tg t) (h' : PG X tg t') : PG X tg (fun v σ H Q => t v σ H Q ∨ t' v σ H Q) := ⟨fun pins s σ H v u Q I r q => by
  rcases q with q | q
  · exact h.run pins s σ H v u Q I r q
  · exact h'.run pins s σ H v u Q I r q⟩
def gNm (i : Nat) : D → T → Option T := fun d τ => if notIo τ i then some (τ.set i (.val d)) else none
def gN0 : List D → T → Option T := fun ds τ => match ds with
  | [] => some τ
  | _ => none
def gN1 (g : D → T → Option T) (h : List D → T → Option T) : List D → T → Option T := fun ds τ => match ds with
  | d :: r => (match g d τ with | some τ1 => h r τ1 | none => none)
  | [] => none
def gTp (n : Nat) (h : List D → T → Option T) : D → T → Option T := fun d τ => match d with
  | .tup ds => if ds.length = n then h ds τ else none
  | .lst ds => if ds.length = n then h ds τ else none
  | _ => none
section
variable {X : Cx} {pos : Pos}
theorem jg_name {i : Nat} {x : Str} {gs : List Nat} (h : PG X (.Name x pos) (gName i)) (hi : i ∈ gs) : JG X (.Name x pos) gs (gNm i) :=
  PG.imp h fun v σ H Q ⟨M, F, τ, d, τ', s, r, e, q⟩ => by
    obtain ⟨c, rfl⟩ := ite_some e
    exact q _ (.set hi) (s.setv c r)
theorem jgs_nil {gs : List Nat} : JGs X [] gs gN0 := PGs.imp pgs_nil fun vs σ H Q ⟨M, F, τ, ds, τ', s, r, e, q⟩ => by
  cases ds with
  | cons _ _ => cases e
  | nil => cases r; cases e; exact ⟨rfl, q σ (.refl _ _) s⟩
theorem jgs_cons {gs : List Nat} {e : Expr} {es : List Expr} {g : D → T → Option T} {h : List D → T → Option T} (h1 : JG X e gs g) (h2 : JGs X es gs h) (hs : (assignEach (e :: es) X.env).map (·.2) = assign e X.env :: (assignEach es X.env).map (·.2)) :
    JGs X (e :: es) gs (gN1 g h) := PGs.imp (pgs_cons h1 h2 hs) fun vs σ H Q ⟨M, F, τ, ds, τ', s, r, e, q⟩ => by
  cases r with
  | nil => cases e
  | @cons v vs d ds rd rr =>
    have e : (match g d τ with | some τ1 => h ds τ1 | none => none) = some τ' := e
    cases e1 : g d τ with
    | none => rw [e1] at e; cases e
    | some τ1 =>
      rw [e1] at e
      exact ⟨v, vs, rfl, M, F, τ, d, τ1, s, rd, e1, fun σ1 o1 s1 => ⟨M, F, τ1, ds, τ', s1, rr, e, fun σ2 o2 s2 => q σ2 (o1.trans o2) s2⟩⟩
theorem jg_tup {gs : List Nat} {es : List Expr} {k n : Nat} {h : List D → T → Option T} (hc : X.calm = true) (hh : JGs X es gs h) (hn : (assignEach es X.env).length = n) (hst : (assignEach es X.env).findIdx? (·.1) = none) : JG X (.Tuple es k pos) gs (gTp n h) :=
  PG.imp (PG.or (pg_tup hc hh hn hst) (pg_unl hc hh hn hst)) fun v σ H Q ⟨M, F, τ, d, τ', s, r, e, q⟩ => by
    cases d <;> first | (cases e; done) | skip
    · rename_i ds
      have e : (if ds.length = n then h ds τ else none) = some τ' := e
      by_cases c : ds.length = n
      · rw [if_pos c] at e
        cases r with
        | tup ha ra => exact .inl ⟨_, _, rfl, .of (s.sub _ _ ha), by rw [ra.length]; exact c, M, F, τ, ds, τ', s, ra, e, q⟩
      · rw [if_neg c] at e; cases e
    · rename_i ds
      have e : (if ds.length = n then h ds τ else none) = some τ' := e
      by_cases c : ds.length = n
      · rw [if_pos c] at e
        cases r with
        | lst ha ra => exact .inr ⟨_, _, rfl, .of (s.sub _ _ ha), by rw [ra.length]; exact c, M, F, τ, ds, τ', s, ra, e, q⟩
      · rw [if_neg c] at e; cases e
end

/-! ### for -/
def forL (body : D → T → SR) : List D → T → SR
  | [], τ => .nx τ
  | d :: ds, τ => match body d τ with
    | .nx τ' => forL body ds τ'
    | .ct τ' => forL body ds τ'
    | .bk τ' => .nx τ'
    | m => m
def sBody (g : D → T → Option T) (b : T → SR) : D → T → SR := fun d τ => match g d τ with
  | some τ' => b τ'
  | none => .stuck
def sFor (it : T → Rs (List D)) (g : D → T → Option T) (b : T → SR) : T → SR := fun τ => (it τ).s fun ds τ1 => forL (sBody g b) ds τ1
section
variable {px : PX} {W : WX} {X : Cx} {pos : Pos} {tg iter : Expr} {body : List Stmt}
theorem js_for {gs : List Nat} {fi : T → Rs (List D)} {g : D → T → Option T} {b : T → SR} (hp : PassesOwn (model X.prog X.w) X.A X.env X.xe) (hc : X.calm = true) (hi : JI px W X tg iter fi) (hg : JG X tg gs g) (hb : JSs px W X body b)
    (hs : ∀ x, foldedSetIterable iter X.env x = pure x) : JS px W X (.For tg iter body [] pos) (sFor fi g b) := by
  refine PS.imp (ps_for hp hc hi hg hb hs) fun D σ H ⟨M, F, τ, s, p⟩ => ⟨M, F, τ, s, p.bind.imp fun ds τ1 F1 H1 g1 s1 p1 J cf => ?_⟩
  refine ⟨fun i m σ' H' => ∃ F' τ', m = ds.length - i ∧ i ≤ ds.length ∧ Sub F1 F' ∧ SRel X.K M F' H' σ' τ' ∧ SPost X.K px W M F' H' D (forL (sBody g b) (ds.drop i) τ'),
    ⟨ds.length, F1, τ1, by simp, Nat.zero_le _, Sub.refl _, s1, p1⟩, ?_⟩
  rintro i m σ' H' ⟨F', τ', rfl, hi, sf, s', p'⟩
  by_cases hlt : i < ds.length
  · refine .inr ⟨cf.go i H' hlt (sf.trans s'.sub), fun σ3 H3 => ∃ F3 τ3, Sub F1 F3 ∧ SRel X.K M F3 H3 σ3 τ3 ∧ SPost X.K px W M F3 H3 D (forL (sBody g b) (ds.drop (i + 1)) τ3), fun σ3 H3 ⟨F3, τ3, a1, a2, a3⟩ => ⟨ds.length - (i + 1), by omega, F3, τ3, rfl, hlt, a1, a2, a3⟩, fun x H2 y => ?_⟩
    have hd : ds[i]? = some ds[i] := by simp [hlt]
    obtain ⟨F2, n2, r2⟩ := cf.yld i F' H' x H2 _ hd sf s'.sub y
    have s2 := n2.srel s'
    rw [List.drop_eq_getElem_cons hlt] at p'
    have p2 := SPost.from p' (n2.grow (M := M))
    unfold forL at p2
    cases eg : g ds[i] τ' with
    | none => simp only [sBody, eg] at p2; exact p2.elim
    | some τ2 =>
      simp only [sBody, eg] at p2
      refine ⟨M, F2, τ', ds[i], τ2, s2, r2, eg, fun σ2 o2 s2' => ⟨M, F2, τ2, s2', ?_⟩⟩
      have sf2 : Sub F1 F2 := sf.trans n2.frz
      cases eb : b τ2 with
      | nx t => simp only [eb] at p2; exact fun σ3 F3 H3 g3 s3 => ⟨F3, t, sf2.trans g3.frz, s3, SPost.from p2 g3⟩
      | ct t => simp only [eb] at p2; exact fun σ3 F3 H3 g3 s3 => ⟨F3, t, sf2.trans g3.frz, s3, SPost.from p2 g3⟩
      | bk t => simp only [eb] at p2; exact p2
      | rt r t => simp only [eb] at p2; cases r <;> exact p2
      | exc x t => simp only [eb] at p2; exact p2
      | stuck => simp only [eb] at p2; exact p2.elim
  · have e : i = ds.length := by omega
    subst e
    rw [List.drop_length] at p'
    exact .inl ⟨cf.stop H' (sf.trans s'.sub), p' σ' F' H' .refl s'⟩

/-! ### while -/
def whileL (t : T → Rs Bool) (b : T → SR) : Nat → T → SR
  | 0, _ => .stuck
  | n + 1, τ => match t τ with
    | .ok true τ1 => (match b τ1 with
      | .nx τ' => whileL t b n τ'
      | .ct τ' => whileL t b n τ'
      | .bk τ' => .nx τ'
      | m => m)
    | .ok false τ1 => .nx τ1
    | .exc x τ1 => .exc x τ1
    | .stuck => .stuck
def fuel : Nat := 100000
def sWhile (t : T → Rs Bool) (b : T → SR) : T → SR := fun τ => whileL t b fuel τ
theorem js_while {c : Expr} {t : T → Rs Bool} {b : T → SR} (hp : PassesOwn (model X.prog X.w) X.A X.env X.xe) (hc : JT px W X c t) (hb : JSs px W X body b) : JS px W X (.While c body [] pos) (sWhile t b) := by
  refine PS.imp (ps_while hp hc hb) fun D σ H ⟨M, F, τ, s, p⟩ => ?_
  refine ⟨fun m σ' H' => ∃ F' τ', SRel X.K M F' H' σ' τ' ∧ SPost X.K px W M F' H' D (whileL t b m τ'), ⟨fuel, F, τ, s, p⟩, ?_⟩
  rintro m σ' H' ⟨F', τ', s', p'⟩
  cases m with
  | zero => exact p'.elim
  | succ n =>
    refine ⟨M, F', τ', s', ?_⟩
    unfold whileL at p'
    cases et : t τ' with
    | stuck => simp only [et] at p'; exact p'.elim
    | exc x τ1 => simp only [et] at p'; exact fun F1 H1 g1 s1 => p' _ F1 H1 g1 s1
    | ok k τ1 =>
      cases k with
      | false => simp only [et] at p'; exact fun F1 H1 g1 s1 => by show (if false = true then _ else _); rw [if_neg Bool.false_ne_true]; exact p' _ F1 H1 g1 s1
      | true =>
        simp only [et] at p'
        intro F1 H1 g1 s1
        show (if true = true then _ else _)
        rw [if_pos rfl]
        refine ⟨fun σ3 H3 => ∃ F3 τ3, SRel X.K M F3 H3 σ3 τ3 ∧ SPost X.K px W M F3 H3 D (whileL t b n τ3), fun σ3 H3 ⟨F3, τ3, a2, a3⟩ => ⟨n, Nat.lt_succ_self _, F3, τ3, a2, a3⟩, M, F1, τ1, s1, ?_⟩
        have p2 := SPost.from p' g1
        cases eb : b τ1 with
        | nx t => simp only [eb] at p2; exact fun σ3 F3 H3 g3 s3 => ⟨F3, t, s3, SPost.from p2 g3⟩
        | ct t => simp only [eb] at p2; exact fun σ3 F3 H3 g3 s3 => ⟨F3, t, s3, SPost.from p2 g3⟩
        | bk t => simp only [eb] at p2; exact p2
        | rt r t => simp only [eb] at p2; cases r <;> exact p2
        | exc x t => simp only [eb] at p2; exact p2
        | stuck => simp only [eb] at p2; exact p2.elim
end
end U
end

section
set_option Elab.async false
set_option linter.all false
set_option maxRecDepth 100000
namespace U
open PySem PySem.Spec PyProof.Rows L2

/-! ### comprehensions -/
theorem SRel.revive {K : PySem.W.Frag} {M : MS} {F H : Hp} {σ : St} {τ : T} {i : Nat} {v : V} {d : D} (s : SRel K M F H σ (τ.set i .no)) (hv : σ[i]? = some (some v)) (r : Rep K F v d) : SRel K M F H σ (τ.set i (.val d)) := by
  have at_ : ∀ {j : Nat} {sl : Sl}, (τ.set i (.val d))[j]? = some sl → sl ≠ .val d ∨ j ≠ i → j ≠ i ∧ (τ.set i .no)[j]? = some sl := fun {j sl} e n => by
    rcases get_set e with ⟨rfl, q, _⟩ | ⟨q, e⟩
    · rcases n with n | n
      · exact absurd q n
      · exact absurd rfl n
    · exact ⟨q, by rw [List.getElem?_set_ne (Ne.symm q)]; exact e⟩
  refine ⟨by simpa using s.len, s.up, s.sub, fun j d' e => ?_, fun j sl ov e1 e2 => ?_, fun j k sl tl b e1 m1 e2 m2 f1 f2 => ?_, fun j o e => ?_⟩
  · by_cases c : j = i
    · subst c
      rcases get_set e with ⟨_, q, _⟩ | ⟨q, _⟩
      · cases q; exact ⟨v, hv, r⟩
      · exact absurd rfl q
    · exact s.val j d' (at_ e (.inr c)).2
  · exact s.own j sl ov (at_ e1 (.inl fun z => by subst z; cases e2)).2 e2
  · exact s.apart j k sl tl b (at_ e1 (.inl fun z => by subst z; exact m1 rfl)).2 m1 (at_ e2 (.inl fun z => by subst z; exact m2 rfl)).2 m2 f1 f2
  · exact s.io j o (at_ e (.inl fun z => nomatch z)).2
def wipeT (τ : T) : List Nat → T
  | [] => τ
  | v :: vs => (wipeT τ vs).set v .no
section
variable {K : PySem.W.Frag} {px : PX} {W : WX} {M : MS} {F H F1 H1 : Hp} {σ : St} {τ : T}
theorem SRel.none1 (s : SRel K M F H σ τ) (i : Nat) : SRel K M F H (σ.set i none) (τ.set i .no) := by
  have s' := s.drop i
  have ne : ∀ {j : Nat} {sl : Sl}, (τ.set i .no)[j]? = some sl → sl ≠ .no → (σ.set i none)[j]? = σ[j]? := fun {j sl} e n => by
    rcases get_set e with ⟨rfl, q, _⟩ | ⟨q, _⟩
    · exact absurd q n
    · exact List.getElem?_set_ne (Ne.symm q)
  refine ⟨by simpa using s.len, s.up, s.sub, fun j d e => ?_, fun j sl ov e1 e2 => ?_, fun j k sl tl b e1 m1 e2 m2 f1 f2 => ?_, fun j o e => ?_⟩
  · rw [ne e (fun z => nomatch z)]; exact s'.val j d e
  · rw [ne e1 (fun z => by subst z; cases e2)]; exact s'.own j sl ov e1 e2
  · rw [ne e1 (fun z => by subst z; exact m1 rfl)] at f1
    rw [ne e2 (fun z => by subst z; exact m2 rfl)] at f2
    exact s'.apart j k sl tl b e1 m1 e2 m2 f1 f2
  · rw [ne e (fun z => nomatch z)]; exact s'.io j o e
theorem SRel.wiped (s : SRel K M F H σ τ) : ∀ vs : List Nat, SRel K M F H (wipe σ vs) (wipeT τ vs)
  | [] => s
  | v :: vs => (s.wiped vs).none1 v
theorem wipeT_length (τ : T) : ∀ vs : List Nat, (wipeT τ vs).length = τ.length
  | [] => rfl
  | v :: vs => by unfold wipeT; rw [List.length_set, wipeT_length τ vs]
theorem wipeT_get {τ : T} {i : Nat} {sl : Sl} : ∀ {vs : List Nat}, (wipeT τ vs)[i]? = some sl → sl ≠ .no → i ∉ vs
  | [], _, _ => by simp
  | v :: vs, h, n => by
    unfold wipeT at h
    rcases get_set h with ⟨rfl, q, _⟩ | ⟨q, h⟩
    · exact absurd q n
    · simp only [List.mem_cons, not_or]
      exact ⟨q, wipeT_get h n⟩
/-- back to the def's own slots -/
theorem SRel.unwipe {vs : List Nat} {τ' : T} (s : SRel K M F H (wipe σ vs) τ') (hw : ∀ (i : Nat) (sl : Sl), τ'[i]? = some sl → sl ≠ .no → i ∉ vs) : SRel K M F H σ τ' := by
  have hl : (wipe σ vs).length = σ.length := wipe_length σ vs
  have at_ : ∀ {i : Nat} {sl : Sl}, τ'[i]? = some sl → sl ≠ .no → (wipe σ vs)[i]? = σ[i]? := fun {i sl} e n => wipe_out (hw i sl e n)
  refine ⟨by rw [← hl]; exact s.len, s.up, s.sub, fun j d e => ?_, fun j sl ov e1 e2 => ?_, fun j k sl tl b e1 m1 e2 m2 f1 f2 => ?_, fun j o e => ?_⟩
  · rw [← at_ e (fun z => nomatch z)]; exact s.val j d e
  · rw [← at_ e1 (fun z => by subst z; cases e2)]; exact s.own j sl ov e1 e2
  · rw [← at_ e1 (fun z => by subst z; exact m1 rfl)] at f1
    rw [← at_ e2 (fun z => by subst z; exact m2 rfl)] at f2
    exact s.apart j k sl tl b e1 m1 e2 m2 f1 f2
  · rw [← at_ e (fun z => nomatch z)]; exact s.io j o e
/-- without the list that is being made -/
def MS.but (M : MS) (a : Addr) : MS := ⟨fun b => M.m b ∧ b ≠ a, M.ad⟩
theorem SRel.but {a : Addr} {u : HO} (s : SRel K M F H σ τ) (ha : H a = some u) (hx : ∀ (i : Nat) (sl : Sl), τ[i]? = some sl → sl.mut ≠ none → σ[i]? ≠ some (some (V.ref a))) : SRel K (M.but a) F H σ τ :=
  ⟨s.len, fun b e => ⟨s.up b e, fun z => by rw [z, ha] at e; cases e⟩, s.sub, s.val, fun i sl o e1 e2 => by
    obtain ⟨b, w, h1, h2, h3, h4, h5⟩ := s.own i sl o e1 e2
    exact ⟨b, w, h1, h2, h3, ⟨h4, fun z => hx i sl e1 (by rw [e2]; exact fun z => nomatch z) (by rw [← z]; exact h1)⟩, h5⟩, s.apart, s.io⟩
theorem SRel.unbut {a : Addr} (s : SRel K (M.but a) F H σ τ) : SRel K M F H σ τ :=
  ⟨s.len, fun b e => (s.up b e).1, s.sub, s.val, fun i sl o e1 e2 => by
    obtain ⟨b, w, h1, h2, h3, h4, h5⟩ := s.own i sl o e1 e2
    exact ⟨b, w, h1, h2, h3, h4.1, h5⟩, s.apart, s.io⟩
theorem Grow.unbut {a : Addr} (g : Grow (M.but a) F H F1 H1) : Grow M F H F1 H1 := g.mono fun _ h => h.1
/-- the made list grows: a step outside of what the block may change -/
theorem but_step {a : Addr} {u u' : HO} (hu : H a = some u) (hm : M.m a) : Grow M F H F (upd H a u') := by
  refine ⟨fun b q => ?_, Sub.refl _, fun b w q n => ?_, fun b q _ _ => q⟩
  · by_cases c : b = a
    · rw [c, upd_same] at q; cases q
    · rw [upd_ne c] at q; exact q
  · rw [upd_ne (fun c => n (by rw [c]; exact hm))]; exact q
theorem SRel.butStep {a : Addr} {u u' : HO} (s : SRel K (M.but a) F H σ τ) (hu : H a = some u) (hf : F a = none) : SRel K (M.but a) F (upd H a u') σ τ := by
  refine ⟨s.len, fun b e => ?_, fun b w e => ?_, s.val, fun i sl o e1 e2 => ?_, s.apart, s.io⟩
  · by_cases c : b = a
    · rw [c, upd_same] at e; cases e
    · rw [upd_ne c] at e; exact s.up b e
  · rw [upd_ne (fun c => by rw [c, hf] at e; cases e)]; exact s.sub b w e
  · obtain ⟨b, w, h1, h2, h3, h4, h5⟩ := s.own i sl o e1 e2
    exact ⟨b, w, h1, by rw [upd_ne h4.2]; exact h2, h3, h4, h5⟩
end
def W0 : WX := fun _ _ _ _ => False
/-- one turn: what is put in, if anything; no exception leaves -/
def turnC (g : D → T → Option T) (tt : T → Rs Bool) (el : T → Rs D) (vs : List Nat) : D → T → Rs (Option D) := fun d τ => match g d τ with
  | none => .stuck
  | some τ1 => match tt τ1 with
    | .ok false τ2 => .ok none (wipeT τ2 vs)
    | .ok true τ2 => (match el τ2 with
      | .ok z τ3 => .ok (some z) (wipeT τ3 vs)
      | _ => .stuck)
    | _ => .stuck
def compL (f : D → T → Rs (Option D)) : List D → T → List D → Rs (List D)
  | [], τ, acc => .ok acc τ
  | d :: ds, τ, acc => match f d τ with
    | .ok (some z) τ1 => if acc.length < lim then compL f ds τ1 (acc ++ [z]) else .stuck
    | .ok none τ1 => compL f ds τ1 acc
    | _ => .stuck
/-- the def's own values of those names come back -/
def restT (τ1 : T) : List Nat → T → T
  | [], τ => τ
  | v :: vs, τ => match τ1[v]? with
    | some (.val d) => (restT τ1 vs τ).set v (.val d)
    | _ => restT τ1 vs τ
theorem SRel.rest {K : PySem.W.Frag} {M : MS} {F1 H1 F H : Hp} {σ : St} {τ1 τ : T} (s1 : SRel K M F1 H1 σ τ1) (e : Sub F1 F) (s : SRel K M F H σ τ) : ∀ vs : List Nat, SRel K M F H σ (restT τ1 vs τ)
  | [] => s
  | v :: vs => by
    have ih := SRel.rest s1 e s vs
    unfold restT
    cases q : τ1[v]? with
    | none => exact ih
    | some sl =>
      cases sl with
      | val d =>
        obtain ⟨x, h1, r⟩ := s1.val v d q
        exact (ih.drop v).revive h1 (r.mono e)
      | _ => exact ih
theorem rest_mut {τ1 τ : T} {i : Nat} {sl : Sl} : ∀ vs : List Nat, (restT τ1 vs τ)[i]? = some sl → sl.mut ≠ none → τ[i]? = some sl ∧ True
  | [], h, m => ⟨h, trivial⟩
  | v :: vs, h, m => by
    unfold restT at h
    cases q : τ1[v]? with
    | none => rw [q] at h; exact rest_mut vs h m
    | some s =>
      rw [q] at h
      cases s with
      | val d =>
        rcases get_set h with ⟨rfl, q, _⟩ | ⟨_, h⟩
        · subst q; exact absurd rfl m
        · exact rest_mut vs h m
      | _ => exact rest_mut vs h m
def sLc (fi : T → Rs (List D)) (g : D → T → Option T) (tt : T → Rs Bool) (el : T → Rs D) (vs : List Nat) : T → Rs PR := fun τ => (fi τ).bind fun ds τ1 => (compL (turnC g tt el vs) ds (wipeT τ1 vs) []).bind fun acc τ2 => .ok (.o (.l acc)) (restT τ1 vs τ2)
theorem lim_lt {n : Nat} (h : n < lim) : n < sizeLine := Nat.lt_of_lt_of_le h (by rw [sizeLine_eq]; decide)
/-- the tests of a clause -/
def JTs (px : PX) (W : WX) (X : Cx) (ifs : List Expr) (f : T → Rs Bool) : Prop := PTs X ifs (rdT X.K px W f)
theorem PTs.imp {X : Cx} {ifs : List Expr} {t t' : TT} (h : PTs X ifs t) (i : ∀ σ H Q, t' σ H Q → t σ H Q) : PTs X ifs t' := ⟨fun pins s σ H Q I q => h.run pins s σ H Q I (i _ _ _ q)⟩
theorem jts_nil {px : PX} {W : WX} {X : Cx} : JTs px W X [] (fun τ => .ok true τ) := PTs.imp pts_nil fun σ H Q ⟨M, F, τ, s, p⟩ => p F H .refl s
theorem jts_one {px : PX} {W : WX} {X : Cx} {c : Expr} {f : T → Rs Bool} (h : JT px W X c f) : JTs px W X [c] f := pts_one h
/-- what compL leaves -/
theorem compL_wiped {g : D → T → Option T} {tt : T → Rs Bool} {el : T → Rs D} {vs : List Nat} : ∀ (ds : List D) (τ : T) (acc out : List D) (τ' : T), (∀ (i : Nat) (sl : Sl), τ[i]? = some sl → sl ≠ .no → i ∉ vs) →
    compL (turnC g tt el vs) ds τ acc = .ok out τ' → ∀ (i : Nat) (sl : Sl), τ'[i]? = some sl → sl ≠ .no → i ∉ vs
  | [], τ, acc, out, τ', h, e => by
    cases e; exact h
  | d :: ds, τ, acc, out, τ', h, e => by
    unfold compL at e
    cases q : turnC g tt el vs d τ with
    | stuck => rw [q] at e; cases e
    | exc x t => rw [q] at e; cases e
    | ok z t =>
      have hw : ∀ (i : Nat) (sl : Sl), t[i]? = some sl → sl ≠ .no → i ∉ vs := by
        unfold turnC at q
        cases e1 : g d τ with
        | none => rw [e1] at q; cases q
        | some τ1 =>
          simp only [e1] at q
          cases e2 : tt τ1 with
          | stuck => rw [e2] at q; cases q
          | exc x t => rw [e2] at q; cases q
          | ok b τ2 =>
            rw [e2] at q
            cases b with
            | false => cases q; exact fun i sl a b => wipeT_get a b
            | true =>
              simp only at q
              cases e3 : el τ2 with
              | stuck => rw [e3] at q; cases q
              | exc x t => rw [e3] at q; cases q
              | ok z τ3 => rw [e3] at q; cases q; exact fun i sl a b => wipeT_get a b
      cases z with
      | none => rw [q] at e; exact compL_wiped ds t acc out τ' hw e
      | some z =>
        simp only [q] at e
        by_cases c : acc.length < lim
        · rw [if_pos c] at e; exact compL_wiped ds t _ out τ' hw e
        · rw [if_neg c] at e; cases e
theorem compL_noexc {f : D → T → Rs (Option D)} : ∀ (ds : List D) (τ : T) (acc : List D) (x : Ex) (t : T), compL f ds τ acc ≠ .exc x t
  | [], τ, acc, x, t, e => by cases e
  | d :: ds, τ, acc, x, t, e => by
    unfold compL at e
    cases q : f d τ with
    | stuck => rw [q] at e; cases e
    | exc x t => rw [q] at e; cases e
    | ok z t' =>
      cases z with
      | none => rw [q] at e; exact compL_noexc ds t' acc x t e
      | some z =>
        simp only [q] at e
        by_cases c : acc.length < lim
        · rw [if_pos c] at e; exact compL_noexc ds t' _ x t e
        · rw [if_neg c] at e; cases e
section
variable {px : PX} {W : WX} {X : Cx} {pos : Pos} {tg iter elt : Expr} {ifs : List Expr} {scope : Scope} {own : List (Str × Nat)}
theorem rd_lc {fi : T → Rs (List D)} {g : D → T → Option T} {tt : T → Rs Bool} {el : T → Rs D} {σ : St} {H : Hp} {Q : VK} {K : PySem.W.Frag} {vs : List Nat} (h : rdX K px W (sLc fi g tt el vs) σ H Q) :
    tLc (rdI K px W fi) (rdG K vs g) (rdT K px W0 tt) (rdE K px W0 el) vs σ H Q := by
  obtain ⟨M, F, τ, s, p⟩ := h
  refine ⟨M, F, τ, s, p.bind.imp fun ds τ1 F1 H1 g1 s1 p1 J cf => fun A hA => ?_⟩
  cases ec : compL (turnC g tt el vs) ds (wipeT τ1 vs) [] with
  | stuck => rw [ec] at p1; exact p1.elim
  | exc x t => exact absurd ec (compL_noexc _ _ _ _ _)
  | ok out τo =>
    rw [ec] at p1
    have p1 : Post K px W M F1 H1 σ (.ok (.o (.l out)) (restT τ1 vs τo)) (RX K M σ Q) := p1
    have hwo := compL_wiped ds _ _ out τo (fun i sl a b => wipeT_get a b) ec
    have hf1 : F1 A = none := s1.new (o := .lst []) hA
    have fo := s1.fresh_own (u := .lst []) (o := .l []) hA (.l .nil)
    refine ⟨fun i m H' => ∃ F' τ' acc accV, m = ds.length - i ∧ i ≤ ds.length ∧ Sub F1 F' ∧ Grow M F1 H1 F' H' ∧ SRel K (M.but A) F' H' (wipe σ vs) τ' ∧ H' A = some (.lst accV) ∧ F' A = none ∧ RepL K F' accV acc ∧ (∀ (i : Nat) (sl : Sl), τ'[i]? = some sl → sl ≠ .no → i ∉ vs) ∧
      compL (turnC g tt el vs) (ds.drop i) τ' acc = .ok out τo, ⟨ds.length, F1, wipeT τ1 vs, [], [], by simp, Nat.zero_le _, Sub.refl _, grow_alloc hA, ?_, upd_same, hf1, .nil, fun i sl a b => wipeT_get a b, ec⟩, ?_⟩
    · refine SRel.but (u := .lst []) ((s1.alloc hA).wiped vs) upd_same fun i sl e m z => ?_
      obtain ⟨a', u, e', _, _, _, _, hx⟩ := fo
      cases e'
      have hn : i ∉ vs := wipeT_get e fun q => by subst q; exact m rfl
      have hz : σ[i]? = some (some (V.ref A)) := (wipe_some z).1
      obtain ⟨o, hm⟩ := Option.ne_none_iff_exists'.mp m
      have hs := (s1.alloc (o := .lst []) hA).wiped vs
      obtain ⟨b, w, h1, h2, h3, h4, h5⟩ := (s1.wiped vs).own i sl o e hm
      rw [h1] at z
      cases z
      rw [hA] at h2
      cases h2
    · rintro i m H' ⟨F', τ', acc, accV, rfl, hi, sf, gg, s', hA', hf', ra, hw, hc⟩
      by_cases hlt : i < ds.length
      · refine .inr ⟨cf.go i H' hlt (sf.trans s'.sub), fun H3 => ∃ F3 τ3 acc3 accV3, Sub F1 F3 ∧ Grow M F1 H1 F3 H3 ∧ SRel K (M.but A) F3 H3 (wipe σ vs) τ3 ∧ H3 A = some (.lst accV3) ∧ F3 A = none ∧ RepL K F3 accV3 acc3 ∧ (∀ (i : Nat) (sl : Sl), τ3[i]? = some sl → sl ≠ .no → i ∉ vs) ∧ compL (turnC g tt el vs) (ds.drop (i + 1)) τ3 acc3 = .ok out τo,
          fun H3 ⟨F3, τ3, c3, v3, a1, a2, a3, a4, a5, a6, a7, a8⟩ => ⟨ds.length - (i + 1), by omega, F3, τ3, c3, v3, rfl, hlt, a1, a2, a3, a4, a5, a6, a7, a8⟩, fun x H2 y => ?_⟩
        have hd : ds[i]? = some ds[i] := by simp [hlt]
        obtain ⟨F2, n2, r2⟩ := cf.yld i F' H' x H2 _ hd sf s'.sub y
        have s2 := n2.srel s'
        rw [List.drop_eq_getElem_cons hlt] at hc
        unfold compL at hc
        cases eg : g ds[i] τ' with
        | none => simp only [turnC, eg] at hc; cases hc
        | some τ2 =>
          simp only [turnC, eg] at hc
          refine ⟨M.but A, F2, τ', ds[i], τ2, s2, r2, eg, fun σ2 o2 s2' => ⟨?_, M.but A, F2, τ2, s2', ?_⟩⟩
          · apply List.ext_getElem?
            intro j
            by_cases hj : j ∈ vs
            · by_cases hl : j < σ.length
              · have e1 : ∀ σ' : St, j < σ'.length → (wipe σ' vs)[j]? = some none := fun σ' hl' => by
                  cases q : (wipe σ' vs)[j]? with
                  | none => rw [List.getElem?_eq_none_iff, wipe_length] at q; omega
                  | some v => cases v with
                    | none => rfl
                    | some v => exact absurd hj (wipe_some q).2
                have hl2 : σ2.length = σ.length := by rw [o2.1, wipe_length]
                rw [e1 σ hl, e1 σ2 (by omega)]
              · have hl2 : σ2.length = σ.length := by rw [o2.1, wipe_length]
                rw [List.getElem?_eq_none (by rw [wipe_length]; omega), List.getElem?_eq_none (by rw [wipe_length]; omega)]
            · rw [wipe_out hj, o2.2 j hj]
          · cases et : tt τ2 with
            | stuck => simp only [et] at hc; cases hc
            | exc x t => simp only [et] at hc; cases hc
            | ok k τ3 =>
              intro F3 H3 g3 s3
              have wp2 : wipe σ2 vs = wipe σ vs := by
                apply List.ext_getElem?
                intro j
                by_cases hj : j ∈ vs
                · by_cases hl : j < σ.length
                  · have e1 : ∀ σ' : St, j < σ'.length → (wipe σ' vs)[j]? = some none := fun σ' hl' => by
                      cases q : (wipe σ' vs)[j]? with
                      | none => rw [List.getElem?_eq_none_iff, wipe_length] at q; omega
                      | some v => cases v with
                        | none => rfl
                        | some v => exact absurd hj (wipe_some q).2
                    have hl2 : σ2.length = σ.length := by rw [o2.1, wipe_length]
                    rw [e1 σ hl, e1 σ2 (by omega)]
                  · have hl2 : σ2.length = σ.length := by rw [o2.1, wipe_length]
                    rw [List.getElem?_eq_none (by rw [wipe_length]; omega), List.getElem?_eq_none (by rw [wipe_length]; omega)]
                · rw [wipe_out hj, o2.2 j hj]
              have hnA : ¬ (M.but A).m A := fun z => z.2 rfl
              have G3 : Grow M F1 H1 F3 H3 := gg.trans ((n2.grow (M := M)).trans g3.unbut)
              have hA2 : H2 A = some (.lst accV) := n2.keep _ _ hA'
              have hA3 : H3 A = some (.lst accV) := g3.keep A _ hA2 hnA
              have hf2 : F2 A = none := n2.free A hf' (by rw [hA']; exact fun z => nomatch z)
              have hf3 : F3 A = none := g3.free A hf2 (by rw [hA2]; exact fun z => nomatch z) hnA
              have ra3 : RepL K F3 accV acc := ra.mono (n2.frz.trans g3.frz)
              have sf3 : Sub F1 F3 := sf.trans (n2.frz.trans g3.frz)
              cases k with
              | false =>
                simp only [et] at hc
                show (if false = true then _ else _)
                rw [if_neg Bool.false_ne_true]
                exact ⟨F3, wipeT τ3 vs, acc, accV, sf3, G3, by rw [← wp2]; exact s3.wiped vs, hA3, hf3, ra3, fun i sl a b => wipeT_get a b, hc⟩
              | true =>
                show (if true = true then _ else _)
                rw [if_pos rfl]
                cases ee : el τ3 with
                | stuck => simp only [et, ee] at hc; cases hc
                | exc x t => simp only [et, ee] at hc; cases hc
                | ok z τ4 =>
                  simp only [et, ee] at hc
                  by_cases cl : acc.length < lim
                  · rw [if_pos cl] at hc
                    refine ⟨M.but A, F3, τ3, s3, ?_⟩
                    rw [ee]
                    intro F4 H4 g4 s4 v rv
                    have hA4 : H4 A = some (.lst accV) := g4.keep A _ hA3 hnA
                    have hf4 : F4 A = none := g4.free A hf3 (by rw [hA3]; exact fun z => nomatch z) hnA
                    have ra4 := ra3.mono g4.frz
                    refine ⟨accV, hA4, by rw [ra.length]; exact lim_lt cl, F4, wipeT τ4 vs, acc ++ [z], accV ++ [v], sf3.trans g4.frz, ?_, ?_, upd_same, hf4, ra4.append (.cons rv .nil), fun i sl a b => wipeT_get a b, hc⟩
                    · refine (G3.trans g4.unbut).trans (but_step hA4 ?_)
                      exact s1.up A hA
                    · rw [← wp2]; exact (s4.wiped vs).butStep hA4 hf4
                  · rw [if_neg cl] at hc; cases hc
      · have e : i = ds.length := by omega
        subst e
        rw [List.drop_length] at hc
        cases hc
        refine .inl ⟨cf.stop H' (sf.trans s'.sub), ?_⟩
        have s3 := s'.unbut.unwipe hw
        refine p1 F' H' gg (SRel.rest s1 sf s3 vs) _ ⟨A, _, rfl, hA', hf', s1.up A hA, .l ra, fun i sl e m z => ?_⟩
        obtain ⟨e', hn⟩ := rest_mut vs e m
        obtain ⟨o, hm⟩ := Option.ne_none_iff_exists'.mp m
        obtain ⟨b, w, h1, h2, h3, h4, h5⟩ := s'.own i sl o e' hm
        have h1' : σ[i]? = some (some (V.ref b)) := (wipe_some h1).1
        rw [h1'] at z
        cases z
        exact h4.2 rfl
theorem jx_lc {fi : T → Rs (List D)} {g : D → T → Option T} {tt : T → Rs Bool} {el : T → Rs D} (hc : X.calm = true) (hN : X.N.Nodup) (hi : JI px W X tg iter fi) (ok : BlkOk X.N X.env.scope scope own)
    (hg : ∀ (s : Shared) (H : Hp) (C : Addr) (cl : List (Str × Addr)) (fp : List Addr), JG (X.blk s H scope (compEnvC scope cl C X.env) fp) tg (own.map (·.2)) g)
    (ht : ∀ (s : Shared) (H : Hp) (C : Addr) (cl : List (Str × Addr)) (fp : List Addr), JTs px W0 (X.blk s H scope (compEnvC scope cl C X.env) fp) ifs tt)
    (he : ∀ (s : Shared) (H : Hp) (C : Addr) (cl : List (Str × Addr)) (fp : List Addr), JE px W0 (X.blk s H scope (compEnvC scope cl C X.env) fp) elt el) (hs : ∀ x, foldedSetIterable iter X.env x = pure x) :
    JX px W X (.ListComp elt [⟨tg, iter, ifs, 0⟩] scope pos) (sLc fi g tt el (own.map (·.2))) :=
  PE.imp (pe_lc (g := rdG X.K (List.map (fun x : Str × Nat => x.2) own) g) (tt := rdT X.K px W0 tt) (te := rdE X.K px W0 el) hc hN hi ok hg ht he hs) fun _ _ _ h => rd_lc h
/-- name = [..] on one line -/
theorem js_setLc {i : Nat} {y : Str} {py spos : Pos} {fi : T → Rs (List D)} {g : D → T → Option T} {tt : T → Rs Bool} {el : T → Rs D} (hc : X.calm = true) (hN : X.N.Nodup) (hy : X.N[i]? = some y) (hyl : X.env.scope.names.lookup y = some .local)
    (hsw : swapsWith (.ListComp elt [⟨tg, iter, ifs, 0⟩] scope pos) (some (.Name y py)) spos.line X.env = pure true) (hi : JI px W X tg iter fi) (ok : BlkOk X.N X.env.scope scope own)
    (hg : ∀ (s : Shared) (H : Hp) (C : Addr) (cl : List (Str × Addr)) (fp : List Addr), JG (X.blk s H scope (compEnvC scope cl C X.env) fp) tg (own.map (·.2)) g)
    (ht : ∀ (s : Shared) (H : Hp) (C : Addr) (cl : List (Str × Addr)) (fp : List Addr), JTs px W0 (X.blk s H scope (compEnvC scope cl C X.env) fp) ifs tt)
    (he : ∀ (s : Shared) (H : Hp) (C : Addr) (cl : List (Str × Addr)) (fp : List Addr), JE px W0 (X.blk s H scope (compEnvC scope cl C X.env) fp) elt el) (hs : ∀ x, foldedSetIterable iter X.env x = pure x) :
    JS px W X (.Assign [.Name y py] (.ListComp elt [⟨tg, iter, ifs, 0⟩] scope pos) spos) (sSet i (sLc fi g tt el (own.map (·.2)))) :=
  js_asg (ps_setLc (g := rdG X.K (List.map (fun x : Str × Nat => x.2) own) g) (tt := rdT X.K px W0 tt) (te := rdE X.K px W0 el) hc hN hy hyl hsw hi ok hg ht he hs) fun _ _ _ h => rd_lc h
end
end U
end

section
set_option Elab.async false
set_option linter.all false
set_option maxRecDepth 100000
namespace U
open PySem PySem.Spec PyProof.Rows L2

/-! ### enumerate(tuple) -/
set_option maxHeartbeats 1000000 in
theorem enumT_new (l : Addr) (items : Array Value) (n : Nat) (dct : Option Addr) (sl : Array (Option Value)) :
    Meets (Builtin.«enumerate.__new__» ⟨[.type "enumerate", .ref l], []⟩) (fun _ R s => s.heap.get? l = some { cls := .type "tuple", dict := dct, data := .seq items n, slots := sl } ∧
      R (.ok (.ret (.ref (s.heap.push { cls := .type "tuple_iterator", data := .fields #[.ref l, .int 0 0] }).objs.size)))
        { s with heap := (s.heap.push { cls := .type "tuple_iterator", data := .fields #[.ref l, .int 0 0] }).push { cls := .type "enumerate", data := .fields #[.none, .bool false, .ref s.heap.objs.size, rawInt 0, .none, .none] } }) :=
  .of_wp fun prog w A R s h => by
    obtain ⟨hp, g, d, tk, os⟩ := s; obtain ⟨hl, h⟩ := h
    have hs := PySem.sub_enumerate
    have hT : Heap.IsTuple (Shared.heap ⟨hp, g, d, tk, os⟩) l items := ⟨_, hl, rfl, n, rfl⟩
    wp_walk using AutoSeq1.wpAny_loadPart' hl
    refine wpAny_stack_any fun st => wpAny_pure ?_
    split
    · rename_i c _ _ _ _ _
      cases (c == Value.type "enumerate")
      · wp_walk using AutoSeq1.wpAny_loadPart' hl, wpAny_pyIter_tuple hT
        exact ⟨_, rfl, h⟩
      · wp_walk using AutoSeq1.wpAny_loadPart' hl, wpAny_pyIter_tuple hT
        exact ⟨_, rfl, h⟩
    · wp_walk using AutoSeq1.wpAny_loadPart' hl, wpAny_pyIter_tuple hT
      exact ⟨_, rfl, h⟩
theorem enumT_call {prog : Program} {w : World} {A : Around} {E : Value → Shared → Prop} {s : Shared} {l : Addr} {items : Array Value} {Q : Value → Shared → Prop} (hL : s.heap.IsTuple l items)
    (h : ∀ h', IsEnum h' (s.heap.objs.size + 1) s.heap.objs.size 0 .none → h'.IsTupleIter s.heap.objs.size l 0 → h'.objs.size = s.heap.objs.size + 2 →
      (∀ b o, s.heap.get? b = some o → h'.get? b = some o) → Q (.ref (s.heap.objs.size + 1)) { s with heap := h' }) :
    wpAny (model prog w) A (call (.type "enumerate") [.ref l]) Q E s := by
  obtain ⟨⟨c, dct, dt, sl⟩, hl, hc, n, hd⟩ := hL
  replace hc : c = .type "tuple" := hc
  replace hd : dt = .seq items n := hd
  subst hc hd
  refine callType_new F.called_enumerate (by decide) (F.typeCall_enumerate_1 _) (F.newCall_enumerate_1 _) (fun obj => F.args_object_init_2 obj _) F.entry_enumerate_new (enumT_new l items n dct sl) ⟨hl, ?_⟩
  have hz : (s.heap.push { cls := .type "tuple_iterator", data := .fields #[.ref l, .int 0 0] }).objs.size = s.heap.objs.size + 1 := Heap.size_push ..
  show _ ∧ _
  rw [hz]
  have he : IsEnum ((s.heap.push { cls := .type "tuple_iterator", data := .fields #[.ref l, .int 0 0] }).push { cls := .type "enumerate", data := .fields #[.none, .bool false, .ref s.heap.objs.size, rawInt 0, .none, .none] }) (s.heap.objs.size + 1) s.heap.objs.size 0 .none := by
    have := Heap.get?_push_size (s.heap.push { cls := .type "tuple_iterator", data := .fields #[.ref l, .int 0 0] }) (o := { cls := .type "enumerate", data := .fields #[.none, .bool false, .ref s.heap.objs.size, rawInt 0, .none, .none] }) rfl
    rw [hz] at this; exact this
  exact ⟨⟨_, he, rfl⟩, h _ he ⟨_, Heap.get?_push_of_some _ (Heap.get?_push_size _ rfl), rfl, rfl⟩ (by rw [Heap.size_push, hz]) fun b o x => Heap.get?_push_of_some _ (Heap.get?_push_of_some _ x)⟩
def IteT (K : PySem.W.Frag) (a : Addr) : It :=
  ⟨fun i H => ∃ (xs : List V) (x : V), SqT K H a xs ∧ xs[i]? = some x, fun i H v H' => ∃ T x, v = .ref T ∧ H T = none ∧ H' = upd H T (.tup [.int (i : Nat), x]) ∧ ∀ xs, SqT K H a xs → xs[i]? = some x, fun i H => ∃ xs : List V, SqT K H a xs ∧ xs.length = i⟩
theorem turn_enumT {P : Program} {w : World} {K : PySem.W.Frag} {elts : List Expr} {kk : Nat} {tpos : Pos} (a e it : Addr) (hai : a ≠ it) (hea : e ≠ a) :
    Turn P w K (.Tuple elts kk tpos) (IteT K a) [e, it] e (fun i h => (∃ old, IsEnum h e it ((i : Nat) : Int) old) ∧ h.IsTupleIter it a i ∧ e ≠ it) where
  mem := by simp
  obj := fun i h st b hb => by
    obtain ⟨⟨old, he⟩, ⟨o, ho, hc, hd⟩, _⟩ := st
    have e' : b = e ∨ b = it := by simpa using hb
    rcases e' with z | z
    · rw [z]; exact ⟨_, he, fun v q => nomatch q⟩
    · rw [z]; exact ⟨o, ho, fun v q => by rw [hd] at q; cases q⟩
  keep := fun i h h' st k => let ⟨⟨old, he⟩, hi, hne⟩ := st; ⟨⟨old, k e (by simp) _ he⟩, hi.at fun o q => k it (by simp) o q, hne⟩
  item := by
    intro X hP hw hK hc i pins s σ H E I hf st hg
    subst hP hw hK
    obtain ⟨⟨old, he⟩, hit, hne⟩ := st
    obtain ⟨xs, x, hq, hx⟩ := hg
    obtain ⟨its, rv, p, _⟩ := I.tuple hq
    obtain ⟨u, hu, ru⟩ := rv.get hx
    have hel : e < s.heap.objs.size := Heap.lt_size he
    have hil : it < s.heap.objs.size := by obtain ⟨_, q, _⟩ := hit; exact Heap.lt_size q
    have hil2 : i < its.toArray.size := by
      obtain ⟨h, _⟩ := List.getElem?_eq_some_iff.mp hu
      simpa using h
    refine wpAny_pyNext_enum_itemD (Draws.tuple (prog := X.prog) (w := X.w) (A := X.A.in1) (I.ok.hd hc) it a hai its.toArray) he ⟨hit, p⟩ hil2 hne (by simp [hne, hea]) fun y h' tk hy ho hst' hT hsz hk => ?_
    have hyu : y = u := by
      have : its.toArray[i]? = some u := by simpa using hu
      rw [this] at hy; exact (Option.some.inj hy).symm
    subst hyu
    refine ⟨_, rfl, wpAny_letOwnedTupleGo_enum (s := { s with heap := h', toks := tk + 1 }) ho fun h'' he' sb => ?_⟩
    have hT2 : h''.get? s.heap.objs.size = some { cls := .type "tuple", data := .seq #[.int i tk, y] } := (sb.2 _ (Nat.ne_of_gt hel)).trans hT
    have new : ObjOk X.prog X.w (upd H s.heap.objs.size (.tup [.int (i : Nat), x])) h'' s.heap.objs.size (.tup [.int (i : Nat), x]) :=
      ⟨by show 2 ≤ sizeLine; decide, [.int i tk, y], .cons ⟨_, rfl⟩ (.cons ru .nil), ⟨_, hT2, rfl, _, rfl⟩⟩
    have I1 : Inv X pins σ (upd H s.heap.objs.size (.tup [.int (i : Nat), x])) { s with heap := h'', toks := tk + 1 } :=
      I.turnedNew (ch := [e, it]) (fun b ob hb q => (sb.2 b (fun z => hb (by simp [z]))).trans (hk b ob (fun z => hb (by simp [z])) (fun z => hb (by simp [z])) q)) hf (Nat.le_refl _) new
    refine ⟨.ref s.heap.objs.size, _, I1, rfl, ⟨_, x, rfl, I.hok.fresh (Nat.le_refl _), rfl, fun ys hy => by rw [I.tuple_inj hy hq]; exact hx⟩, ⟨⟨y, ?_⟩, hst'.1.at fun o q => (sb.2 it (Ne.symm hne)).trans q, hne⟩, fun b hb => ?_⟩
    · have e1 : ((i + 1 : Nat) : Int) = (i : Int) + 1 := by omega
      rw [e1]; exact he'
    · have hb' : b < s.heap.objs.size := by
        have e' : b = e ∨ b = it := by simpa using hb
        rcases e' with z | z
        · rw [z]; exact hel
        · rw [z]; exact hil
      rw [upd_ne (Nat.ne_of_lt hb')]
      exact (hf b hb).1
  done := by
    intro X hP hw hK hc i pins s σ H E I hf st hg
    subst hP hw hK
    obtain ⟨⟨old, he⟩, hit, hne⟩ := st
    obtain ⟨xs, hq, hx⟩ := hg
    obtain ⟨its, rv, p, _⟩ := I.tuple hq
    obtain ⟨f0, f1, f2, f3, f4, f5⟩ := hf it (by simp)
    have hl := rv.length
    have hs : i = its.toArray.size := by simp; omega
    subst hs
    exact wpAny_pyNext_enum_endD (Draws.tuple (prog := X.prog) (w := X.w) (A := X.A.in1) (I.ok.hd hc) it a hai its.toArray) he ⟨hit, p⟩ fun h' eb => ⟨rfl, I.turned (t' := s.toks) (fun b o hb q => eb b o hb q) f0 f1 f3 f4 f5⟩
  self := fun A i s Q E st h => let ⟨⟨_, he⟩, _⟩ := st; wpAny_pyIter_enum he h
def iEnumA (K : PySem.W.Frag) (ta : TA) : TI := fun σ H R => ta σ H fun vs H1 => ∃ a xs, vs = [.ref a] ∧ ((SqL K H1 a xs ∧ R (Ite K a) H1) ∨ (SqT K H1 a xs ∧ R (IteT K a) H1))
theorem pi_enumA {X : Cx} {e : Expr} {ta : TA} {p pos tpos : Pos} {elts : List Expr} {kk : Nat} (hg : Gl X "enumerate") (hm : X.mg "enumerate" = none) (ha : PA X [e] ta) (hs : starEach [e] X.env = [(false, eval e X.env)]) :
    PI X (.Tuple elts kk tpos) (.Call (.Name "enumerate" p) [e] [] pos) (iEnumA X.K ta) := by
  refine ⟨fun pins s σ H R I h => ?_⟩
  refine Call_ (ld_blt I hg hm boot_enumerate (PyProof.Rows.callWith_type1 (thn (ha.run pos pins s σ H _ I h) fun us s1 ⟨vs, H1, I1, r1, q1⟩ => ?_) hs rfl))
  obtain ⟨a, xs, ex, q1⟩ := q1
  subst ex
  cases r1 with
  | cons r rr =>
    cases rr
    cases r
    have frs : ∀ b, b ∈ [s1.heap.objs.size + 1, s1.heap.objs.size] → FpOk X pins H1 b := fun b hb => by
      have e' : b = s1.heap.objs.size + 1 ∨ b = s1.heap.objs.size := by simpa using hb
      have hle : s1.heap.objs.size ≤ b := by
        rcases e' with z | z
        · rw [z]; exact Nat.le_add_right _ _
        · rw [z]; exact Nat.le_refl _
      exact I1.fpOk hle (I1.hok.fresh hle)
    rcases q1 with ⟨hq, q⟩ | ⟨hq, q⟩
    · obtain ⟨its, rv, p', hz⟩ := I1.list hq
      refine call_enumerate_list p'.isList fun h' he hit hsz hk => wpAny_pyIter_enum he ?_
      have I2 : Inv X pins σ H1 { s1 with heap := h' } := I1.kept (t' := s1.toks) hk
      exact ⟨s1.heap.objs.size + 1, [s1.heap.objs.size + 1, s1.heap.objs.size], _, _, H1, rfl, I2, turn_enum a (s1.heap.objs.size + 1) s1.heap.objs.size, ⟨⟨.none, he⟩, hit, Nat.succ_ne_self _⟩, frs, q⟩
    · obtain ⟨its, rv, p', _⟩ := I1.tuple hq
      have hal : a < s1.heap.objs.size := by obtain ⟨_, z, _⟩ := id p'; exact Heap.lt_size z
      refine enumT_call (show s1.heap.IsTuple a its.toArray from p') fun h' he hit hsz hk => wpAny_pyIter_enum he ?_
      have I2 : Inv X pins σ H1 { s1 with heap := h' } := I1.kept (t' := s1.toks) hk
      exact ⟨s1.heap.objs.size + 1, [s1.heap.objs.size + 1, s1.heap.objs.size], _, _, H1, rfl, I2, turn_enumT a (s1.heap.objs.size + 1) s1.heap.objs.size (Nat.ne_of_lt hal) (Nat.ne_of_gt (Nat.lt_succ_of_lt hal)), ⟨⟨.none, he⟩, hit, Nat.succ_ne_self _⟩, frs, q⟩
/-! ### in our terms -/
def numb (k : Nat) : List D → List D
  | [] => []
  | d :: ds => .tup [.int (k : Int), d] :: numb (k + 1) ds
theorem numb_get : ∀ (ds : List D) (k i : Nat), (numb k ds)[i]? = (ds[i]?).map fun d => .tup [.int ((k + i : Nat) : Int), d]
  | [], k, i => by simp [numb]
  | d :: ds, k, 0 => by simp [numb]
  | d :: ds, k, i + 1 => by
    simp only [numb, List.getElem?_cons_succ]
    rw [numb_get ds (k + 1) i]
    congr 1; funext x
    have : k + 1 + i = k + (i + 1) := by omega
    rw [this]
theorem numb_len : ∀ (ds : List D) (k : Nat), (numb k ds).length = ds.length
  | [], k => rfl
  | d :: ds, k => by simp [numb, numb_len ds]
section
variable {K : PySem.W.Frag} {F H : Hp}
theorem pair_new {F' H' : Hp} {T : Addr} {x y : V} {d e : D} (s : Sub F' H') (hT : H' T = none) (rx : Rep K F' x d) (ry : Rep K F' y e) : ∃ F'', New F' H' F'' (upd H' T (.tup [x, y])) ∧ Rep K F'' (.ref T) (.tup [d, e]) :=
  ⟨_, .lay s hT, .tup upd_same (.cons (rx.mono (Sub.upd (none_of_sub s hT))) (.cons (ry.mono (Sub.upd (none_of_sub s hT))) .nil))⟩
theorem conf_enumL {a : Addr} {vs : List V} {ds : List D} (h : F a = some (.lst vs)) (r : RepL K F vs ds) : Conf K F (Ite K a) (numb 0 ds) := by
  refine ⟨fun i H' hi s => ?_, fun H' s => ⟨vs, .of (s _ _ h), by rw [r.length, numb_len]; exact Nat.le_refl _⟩, fun i F' H' x H'' d e s s' y => ?_⟩
  · have hv : i < vs.length := by rw [r.length]; rw [numb_len] at hi; exact hi
    exact ⟨vs, vs[i], .of (s _ _ h), by simp [hv]⟩
  · rw [numb_get] at e
    obtain ⟨d0, e0, rfl⟩ := map_some e
    obtain ⟨v, e1, rv⟩ := r.get e0
    obtain ⟨T, z, rfl, hT, rfl, y⟩ := y
    have := y vs (.of (s' _ _ (s _ _ h)))
    rw [e1] at this
    cases this
    rw [Nat.zero_add]
    exact pair_new s' hT (.int _) (rv.mono s)
theorem conf_enumT {a : Addr} {vs : List V} {ds : List D} (h : F a = some (.tup vs)) (r : RepL K F vs ds) : Conf K F (IteT K a) (numb 0 ds) := by
  refine ⟨fun i H' hi s => ?_, fun H' s => ⟨vs, .of (s _ _ h), by rw [r.length, numb_len]⟩, fun i F' H' x H'' d e s s' y => ?_⟩
  · have hv : i < vs.length := by rw [r.length]; rw [numb_len] at hi; exact hi
    exact ⟨vs, vs[i], .of (s _ _ h), by simp [hv]⟩
  · rw [numb_get] at e
    obtain ⟨d0, e0, rfl⟩ := map_some e
    obtain ⟨v, e1, rv⟩ := r.get e0
    obtain ⟨T, z, rfl, hT, rfl, y⟩ := y
    have := y vs (.of (s' _ _ (s _ _ h)))
    rw [e1] at this
    cases this
    rw [Nat.zero_add]
    exact pair_new s' hT (.int _) (rv.mono s)
def zipD : List D → List D → List D
  | d :: ds, e :: es => .tup [d, e] :: zipD ds es
  | _, _ => []
theorem zipD_get : ∀ (ds es : List D) (i : Nat) (z : D), (zipD ds es)[i]? = some z → ∃ d e, ds[i]? = some d ∧ es[i]? = some e ∧ z = .tup [d, e]
  | [], es, i, z, h => by simp [zipD] at h
  | d :: ds, [], i, z, h => by simp [zipD] at h
  | d :: ds, e :: es, 0, z, h => by simp [zipD] at h; exact ⟨d, e, rfl, rfl, h.symm⟩
  | d :: ds, e :: es, i + 1, z, h => by
    simp only [zipD, List.getElem?_cons_succ] at h
    exact zipD_get ds es i z h
theorem zipD_len : ∀ (ds es : List D), (zipD ds es).length = min ds.length es.length
  | [], es => by simp [zipD]
  | d :: ds, [] => by simp [zipD]
  | d :: ds, e :: es => by simp only [zipD, List.length_cons, zipD_len ds es]; omega
theorem conf_zipL {a b : Addr} {vs ws : List V} {ds es : List D} (h : F a = some (.lst vs)) (r : RepL K F vs ds) (h' : F b = some (.lst ws)) (r' : RepL K F ws es) : Conf K F (Itz K a b) (zipD ds es) := by
  refine ⟨fun i H' hi s => ?_, fun H' s => ⟨vs, ws, .of (s _ _ h), .of (s _ _ h'), by rw [r.length, r'.length, zipD_len]; omega⟩, fun i F' H' x H'' d e s s' y => ?_⟩
  · rw [zipD_len] at hi
    have hv : i < vs.length := by rw [r.length]; omega
    have hw : i < ws.length := by rw [r'.length]; omega
    exact ⟨vs, ws, vs[i], ws[i], .of (s _ _ h), .of (s _ _ h'), by simp [hv], by simp [hw]⟩
  · obtain ⟨d0, e0, q1, q2, rfl⟩ := zipD_get _ _ _ _ e
    obtain ⟨v, e1, rv⟩ := r.get q1
    obtain ⟨w, e2, rw'⟩ := r'.get q2
    obtain ⟨T, x', y', rfl, hT, rfl, y1, y2⟩ := y
    have z1 := y1 vs (.of (s' _ _ (s _ _ h)))
    have z2 := y2 ws (.of (s' _ _ (s _ _ h')))
    rw [e1] at z1
    rw [e2] at z2
    cases z1
    cases z2
    exact pair_new s' hT (rv.mono s) (rw'.mono s)
theorem conf_zipT {a b : Addr} {vs ws : List V} {ds es : List D} (h : F a = some (.tup vs)) (r : RepL K F vs ds) (h' : F b = some (.tup ws)) (r' : RepL K F ws es) : Conf K F (RZ.ItzT K a b) (zipD ds es) := by
  refine ⟨fun i H' hi s => ?_, fun H' s => ⟨vs, ws, .of (s _ _ h), .of (s _ _ h'), by rw [r.length, r'.length, zipD_len]; omega⟩, fun i F' H' x H'' d e s s' y => ?_⟩
  · rw [zipD_len] at hi
    have hv : i < vs.length := by rw [r.length]; omega
    have hw : i < ws.length := by rw [r'.length]; omega
    exact ⟨vs, ws, vs[i], ws[i], .of (s _ _ h), .of (s _ _ h'), by simp [hv], by simp [hw]⟩
  · obtain ⟨d0, e0, q1, q2, rfl⟩ := zipD_get _ _ _ _ e
    obtain ⟨v, e1, rv⟩ := r.get q1
    obtain ⟨w, e2, rw'⟩ := r'.get q2
    obtain ⟨T, x', y', rfl, hT, rfl, y1, y2⟩ := y
    have z1 := y1 vs (.of (s' _ _ (s _ _ h)))
    have z2 := y2 ws (.of (s' _ _ (s _ _ h')))
    rw [e1] at z1
    rw [e2] at z2
    cases z1
    cases z2
    exact pair_new s' hT (rv.mono s) (rw'.mono s)
end
section
variable {px : PX} {W : WX} {X : Cx} {pos tpos : Pos} {elts : List Expr} {kk : Nat}
def sEnum (f : T → Rs (List D)) : T → Rs (List D) := fun τ => (f τ).bind fun ds τ1 => match ds with
  | [.lst es] => .ok (numb 0 es) τ1
  | [.tup es] => .ok (numb 0 es) τ1
  | _ => .stuck
theorem ji_enum {e : Expr} {p : Pos} {f : T → Rs (List D)} (hg : Gl X "enumerate") (hm : X.mg "enumerate" = none) (ha : JA px W X [e] f) (hs : starEach [e] X.env = [(false, eval e X.env)]) : JI px W X (.Tuple elts kk tpos) (.Call (.Name "enumerate" p) [e] [] pos) (sEnum f) :=
  PI.imp (pi_enumA hg hm ha hs) fun σ H R ⟨M, F, τ, s, p⟩ => ⟨M, F, τ, s, p.bind.imp fun ds τ1 F1 H1 g1 s1 p1 vs r => by
    match ds, p1, r with
    | [.lst es], p1, .cons (.lst q r) .nil => exact ⟨_, _, rfl, .inl ⟨.of (s1.sub _ _ q), p1 F1 H1 .refl s1 _ (conf_enumL q r)⟩⟩
    | [.tup es], p1, .cons (.tup q r) .nil => exact ⟨_, _, rfl, .inr ⟨.of (s1.sub _ _ q), p1 F1 H1 .refl s1 _ (conf_enumT q r)⟩⟩⟩
def sZip (f : T → Rs (List D)) : T → Rs (List D) := fun τ => (f τ).bind fun ds τ1 => match ds with
  | [.lst es, .lst fs] => .ok (zipD es fs) τ1
  | [.tup es, .tup fs] => .ok (zipD es fs) τ1
  | _ => .stuck
theorem ji_zip {e e2 : Expr} {p : Pos} {f : T → Rs (List D)} (hg : Gl X "zip") (hm : X.mg "zip" = none) (ha : JA px W X [e, e2] f) (hs : starEach [e, e2] X.env = (false, eval e X.env) :: starEach [e2] X.env) (hp : (backTo pos (starEach [e2] X.env)).any (·.1) = false) :
    JI px W X (.Tuple elts kk tpos) (.Call (.Name "zip" p) [e, e2] [] pos) (sZip f) :=
  PI.imp (RZ.pi_zipA hg hm ha hs hp) fun σ H R ⟨M, F, τ, s, p⟩ => ⟨M, F, τ, s, p.bind.imp fun ds τ1 F1 H1 g1 s1 p1 vs r => by
    match ds, p1, r with
    | [.lst es, .lst fs], p1, .cons (.lst q r) (.cons (.lst q' r') .nil) => exact ⟨_, _, _, _, rfl, .inl ⟨.of (s1.sub _ _ q), .of (s1.sub _ _ q'), p1 F1 H1 .refl s1 _ (conf_zipL q r q' r')⟩⟩
    | [.tup es, .tup fs], p1, .cons (.tup q r) (.cons (.tup q' r') .nil) => exact ⟨_, _, _, _, rfl, .inr ⟨.of (s1.sub _ _ q), .of (s1.sub _ _ q'), p1 F1 H1 .refl s1 _ (conf_zipT q r q' r')⟩⟩⟩
end
end U
end

section
set_option Elab.async false
set_option linter.all false
set_option maxRecDepth 100000
namespace U
open PySem PySem.Spec PyProof.Rows L2

/-! ### own defs: what they promise -/
inductive DR where
  | ok (r : PR) (fs : T)
  | exc (x : Ex) (fs : T)
  | stuck
/-- what of the lent objects is handed back -/
def finals : List Sl → T → Option T
  | [], _ => some []
  | a :: as, t :: τ => match a, t with
    | .io _, .io o => (finals as τ).map (Sl.io o :: ·)
    | .io _, _ => none
    | _, _ => (finals as τ).map (Sl.no :: ·)
  | _ :: _, [] => none
def DR.of (r : SR) (as : List Sl) : DR := match r with
  | .rt r τ => (match finals as τ with | some fs => .ok r fs | none => .stuck)
  | .nx τ => (match finals as τ with | some fs => .ok (.d .non) fs | none => .stuck)
  | .exc x τ => (match finals as τ with | some fs => .exc x fs | none => .stuck)
  | _ => .stuck
/-- the body f at these arguments; m: the other names -/
def run (m : Nat) (f : T → SR) (as : List Sl) : DR := DR.of (f (as ++ List.replicate m .no)) as
def CPost (K : PySem.W.Frag) (px : PX) (M : MS) (F H : Hp) (vs : List V) (Q : VK) (E : XK) : DR → Prop
  | .ok (.d z) fs => ∀ v F' H', Grow M F H F' H' → SRel K M F' H' (vs.map some) fs → Rep K F' v z → Q v H'
  | .ok (.o z) fs => ∀ v F' H', Grow M F H F' H' → SRel K M F' H' (vs.map some) fs → OwnR K M F' H' (vs.map some) fs v z → Q v H'
  | .exc x fs => ∀ F' H', Grow M F H F' H' → SRel K M F' H' (vs.map some) fs → ∀ dd, XD K px F' H' x dd → E (.ref (px.cls x.c)) dd H'
  | .stuck => False
def spOf (K : PySem.W.Frag) (px : PX) (n : Nat) (den : List Sl → DR) : Sp := fun vs H Q E => ∃ M F as, vs.length = n ∧ as.length = n ∧ SRel K M F H (vs.map some) as ∧ CPost K px M F H vs Q E (den as)
theorem finals_get : ∀ {as : List Sl} {τ fs : T} {i : Nat} {sl : Sl}, finals as τ = some fs → fs[i]? = some sl → sl ≠ .no → ∃ o0 o, as[i]? = some (.io o0) ∧ τ[i]? = some (.io o) ∧ sl = .io o
  | [], τ, fs, i, sl, h, e, n => by cases h; simp at e
  | a :: as, [], fs, i, sl, h, e, n => by cases h
  | a :: as, t :: τ, fs, i, sl, h, e, n => by
    have key : ∃ x fs', finals as τ = some fs' ∧ fs = x :: fs' ∧ (x ≠ .no → ∃ o0 o, a = .io o0 ∧ t = .io o ∧ x = .io o) := by
      cases a with
      | io o0 => cases t with
        | io o =>
          obtain ⟨fs', e1, rfl⟩ := map_some (show (finals as τ).map (Sl.io o :: ·) = some fs from h)
          exact ⟨_, fs', e1, rfl, fun _ => ⟨o0, o, rfl, rfl, rfl⟩⟩
        | _ => cases h
      | _ =>
        obtain ⟨fs', e1, rfl⟩ := map_some (show (finals as τ).map (Sl.no :: ·) = some fs from h)
        exact ⟨_, fs', e1, rfl, fun z => absurd rfl z⟩
    obtain ⟨x, fs', e1, rfl, hx⟩ := key
    cases i with
    | zero =>
      have : x = sl := by simpa using e
      subst this
      obtain ⟨o0, o, rfl, rfl, rfl⟩ := hx n
      exact ⟨o0, o, rfl, rfl, rfl⟩
    | succ i =>
      obtain ⟨o0, o, q1, q2, q3⟩ := finals_get (i := i) e1 (by simpa using e) n
      exact ⟨o0, o, by simpa using q1, by simpa using q2, q3⟩
theorem finals_len : ∀ {as : List Sl} {τ fs : T}, finals as τ = some fs → fs.length = as.length
  | [], τ, fs, h => by cases h; rfl
  | a :: as, [], fs, h => by cases h
  | a :: as, t :: τ, fs, h => by
    have key : ∃ x fs', finals as τ = some fs' ∧ fs = x :: fs' := by
      cases a with
      | io o0 => cases t with
        | io o =>
          obtain ⟨fs', e1, rfl⟩ := map_some (show (finals as τ).map (Sl.io o :: ·) = some fs from h)
          exact ⟨_, fs', e1, rfl⟩
        | _ => cases h
      | _ =>
        obtain ⟨fs', e1, rfl⟩ := map_some (show (finals as τ).map (Sl.no :: ·) = some fs from h)
        exact ⟨_, fs', e1, rfl⟩
    obtain ⟨x, fs', e1, rfl⟩ := key
    rw [List.length_cons, finals_len e1, List.length_cons]
section
variable {K : PySem.W.Frag} {px : PX} {M : MS} {F H F' H' : Hp} {σ σ' : St} {τ' : T} {vs : List V} {as : List Sl} {fs : T}
theorem SRel.finals (s0 : SRel K M F H (vs.map some) as) (s : SRel K M F' H' σ' τ') (e : U.finals as τ' = some fs) : SRel K M F' H' (vs.map some) fs := by
  have at_ : ∀ (i : Nat) (sl : Sl), fs[i]? = some sl → sl ≠ .no → ∃ o, sl = .io o ∧ τ'[i]? = some (.io o) ∧ (vs.map some)[i]? = some (some (V.ref (M.ad i))) ∧ σ'[i]? = some (some (V.ref (M.ad i))) := fun i sl h n => by
    obtain ⟨o0, o, q1, q2, rfl⟩ := finals_get e h n
    exact ⟨o, rfl, q2, s0.io i o0 q1, s.io i o q2⟩
  refine ⟨by rw [finals_len e]; exact s0.len, s.up, s.sub, fun i d h => ?_, fun i sl o h m => ?_, fun i j sl tl b h1 m1 h2 m2 f1 f2 => ?_, fun i o h => ?_⟩
  · obtain ⟨o, q, _⟩ := at_ i _ h (fun z => nomatch z); cases q
  · obtain ⟨o', rfl, q2, q3, q4⟩ := at_ i _ h (fun z => by subst z; cases m)
    cases m
    obtain ⟨a, u, h1, h2, h3, h4, h5⟩ := s.own i _ _ q2 rfl
    rw [q4] at h1
    cases h1
    exact ⟨_, u, q3, h2, h3, h4, h5⟩
  · obtain ⟨o1, rfl, q2, q3, q4⟩ := at_ i _ h1 (fun z => by subst z; exact m1 rfl)
    obtain ⟨o2, rfl, r2, r3, r4⟩ := at_ j _ h2 (fun z => by subst z; exact m2 rfl)
    rw [q3] at f1
    rw [r3] at f2
    cases f1
    refine s.apart i j _ _ (M.ad i) q2 m1 r2 m2 q4 ?_
    rw [r4]; exact f2
  · obtain ⟨_, _, _, q3, _⟩ := at_ i _ h (fun z => nomatch z); exact q3
theorem OwnR.finals {v : V} {o : OV} (s0 : SRel K M F H (vs.map some) as) (s : SRel K M F' H' σ' τ') (e : U.finals as τ' = some fs) (h : OwnR K M F' H' σ' τ' v o) : OwnR K M F' H' (vs.map some) fs v o := by
  obtain ⟨a, u, h1, h2, h3, h4, h5, h6⟩ := h
  refine ⟨a, u, h1, h2, h3, h4, h5, fun i sl q m z => ?_⟩
  obtain ⟨o0, o', q1, q2, rfl⟩ := finals_get e q (fun z => by subst z; exact m rfl)
  have z1 := s0.io i o0 q1
  have z2 := s.io i o' q2
  rw [z1] at z
  exact h6 i _ q2 m (by rw [z2]; exact z)
theorem app_get {m i : Nat} {sl : Sl} (h : (as ++ List.replicate m Sl.no)[i]? = some sl) (n : sl ≠ .no) : as[i]? = some sl := by
  by_cases c : i < as.length
  · rw [List.getElem?_append_left c] at h; exact h
  · rw [List.getElem?_append_right (by omega), List.getElem?_replicate] at h
    split at h
    · cases h; exact absurd rfl n
    · cases h
theorem app_left {α : Type} {l r : List α} {i : Nat} {x : α} (h : l[i]? = some x) : (l ++ r)[i]? = some x := by
  obtain ⟨c, _⟩ := List.getElem?_eq_some_iff.mp h
  rw [List.getElem?_append_left c]; exact h
theorem SRel.start {m k : Nat} (s : SRel K M F H (vs.map some) as) (hl : vs.length = as.length) (hm : m ≤ k) : SRel K M F H (vs.map some ++ List.replicate k none) (as ++ List.replicate m .no) := by
  refine ⟨by simp; omega, s.up, s.sub, fun i d h => ?_, fun i sl o h e => ?_, fun i j sl tl b h1 m1 h2 m2 f1 f2 => ?_, fun i o h => ?_⟩
  · obtain ⟨v, e, r⟩ := s.val i d (app_get h fun z => nomatch z)
    exact ⟨v, app_left e, r⟩
  · obtain ⟨a, u, h1, h2⟩ := s.own i sl o (app_get h fun z => by subst z; cases e) e
    exact ⟨a, u, app_left h1, h2⟩
  · have q1 := app_get h1 (fun z => by subst z; exact m1 rfl)
    have q2 := app_get h2 (fun z => by subst z; exact m2 rfl)
    obtain ⟨o1, e1⟩ := Option.ne_none_iff_exists'.mp m1
    obtain ⟨o2, e2⟩ := Option.ne_none_iff_exists'.mp m2
    obtain ⟨a1, _, p1, _⟩ := s.own i sl o1 q1 e1
    obtain ⟨a2, _, p2, _⟩ := s.own j tl o2 q2 e2
    rw [app_left p1] at f1
    rw [app_left p2] at f2
    cases f1
    cases f2
    exact s.apart i j sl tl _ q1 m1 q2 m2 p1 p2
  · exact app_left (s.io i o (app_get h fun z => nomatch z))
theorem run_post {Q : VK} {E : XK} {r : SR} {D : Ends} (hnx : D.nx = fun _ H' => Q .non H') (hrt : D.rt = Q) (s0 : SRel K M F H (vs.map some) as) (p : CPost K px M F H vs Q E (DR.of r as)) : SPost K px (fun cls d _ H => E cls d H) M F H D r := by
  cases r with
  | rt r τ =>
    have p : CPost K px M F H vs Q E (match U.finals as τ with | some fs => .ok r fs | none => .stuck) := p
    cases e : U.finals as τ with
    | none => rw [e] at p; exact p.elim
    | some fs =>
      rw [e] at p
      cases r with
      | d z => exact fun v σ' F' H' g s r => by rw [hrt]; exact p v F' H' g (s0.finals s e) r
      | o z => exact fun v σ' F' H' g s r => by rw [hrt]; exact p v F' H' g (s0.finals s e) (r.finals s0 s e)
  | nx τ =>
    have p : CPost K px M F H vs Q E (match U.finals as τ with | some fs => .ok (.d .non) fs | none => .stuck) := p
    cases e : U.finals as τ with
    | none => rw [e] at p; exact p.elim
    | some fs =>
      rw [e] at p
      exact fun σ' F' H' g s => by rw [hnx]; exact p .non F' H' g (s0.finals s e) .non
  | exc x τ =>
    have p : CPost K px M F H vs Q E (match U.finals as τ with | some fs => .exc x fs | none => .stuck) := p
    cases e : U.finals as τ with
    | none => rw [e] at p; exact p.elim
    | some fs =>
      rw [e] at p
      exact fun σ' F' H' g s dd xd => p F' H' g (s0.finals s e) dd xd
  | bk τ => exact p.elim
  | ct τ => exact p.elim
  | stuck => exact p.elim
end
section
variable {P : Program} {w : World} {K : PySem.W.Frag} {mg : Str → Option Value} {base : Heap} {x qual : Str} {params : Arguments} {body : List Stmt} {scope : Scope} {f : Addr} {fd : FuncData} {px : PX}
/-- THE RULE of a def -/
theorem fn_run {N ps : List Str} {k m : Nat} {g : T → SR} (F : FunD K x qual params body scope [] [] f fd) (S : FnScope N ps scope) (hn : N.length = ps.length + m)
    (hb : ∀ (cdv : Value) (A : Around) (outer : List Env) (s : Shared) (H : Hp) (E : XK), Room k (A.deeper (envOfC qual scope s.heap.objs.size f cdv)) →
      Takes (cxOf (L2.CX P w) P w K mg base N qual scope f cdv A outer s H E) (fun cls d _ H => E cls d H) →
      PassesOwn (model P w) (cxOf (L2.CX P w) P w K mg base N qual scope f cdv A outer s H E).A (cxOf (L2.CX P w) P w K mg base N qual scope f cdv A outer s H E).env (cxOf (L2.CX P w) P w K mg base N qual scope f cdv A outer s H E).xe →
      JSs px (fun cls d _ H => E cls d H) (cxOf (L2.CX P w) P w K mg base N qual scope f cdv A outer s H E) body g) :
    FnOk P w K mg base (L2.CX P w) (k + 1) f fd ps (spOf K px ps.length (run m g)) := by
  refine F.ok S (fun vs H Q E h => ?_) (fun cdv A outer s H vs Q E hr h => ⟨_, hb cdv A outer s H E hr (takes_of rfl rfl rfl rfl) (passes_of rfl), ?_⟩)
  · obtain ⟨M, F, as, h, _⟩ := h; exact h
  · obtain ⟨M, F, as, hv, ha, sr, p⟩ := h
    refine ⟨M, F, as ++ List.replicate m Sl.no, ?_, run_post (K := K) (px := px) (E := E) (D := { nx := fun _ H' => Q V.non H', rt := Q }) (r := g (as ++ List.replicate m Sl.no)) rfl rfl sr p⟩
    exact sr.start (by omega) (by omega)
end
/-! ### calling them -/
def avL : List BR → T → Option (List Sl)
  | [], _ => some []
  | .d z :: bs, τ => (avL bs τ).map (Sl.val z :: ·)
  | .sl i :: bs, τ => match τ[i]? with
    | some (.own o) => (avL bs τ).map (Sl.io o :: ·)
    | some (.io o) => (avL bs τ).map (Sl.io o :: ·)
    | some (.val d) => (avL bs τ).map (Sl.val d :: ·)
    | _ => none
def slL : List BR → List Nat
  | [] => []
  | .d _ :: bs => slL bs
  | .sl i :: bs => i :: slL bs
def putL : List BR → List Sl → T → T → Option T
  | [], [], [], τ => some τ
  | b :: bs, a :: as, f :: fs, τ => match b, a, f with
    | .sl i, .io _, .io o => putL bs as fs (τ.set i ((τ.getD i .no).put o))
    | _, .val _, _ => putL bs as fs τ
    | _, _, _ => none
  | _, _, _, _ => none
def sCall (den : List Sl → DR) (fa : T → Rs (List BR)) : T → Rs PR := fun τ => (fa τ).bind fun bs τ1 => if (slL bs).Nodup then (match avL bs τ1 with
  | some as => (match den as with
    | .ok r fs => (match putL bs as fs τ1 with | some τ2 => .ok r τ2 | none => .stuck)
    | .exc x fs => (match putL bs as fs τ1 with | some τ2 => .exc x τ2 | none => .stuck)
    | .stuck => .stuck)
  | none => .stuck) else .stuck
theorem avL_get : ∀ {bs : List BR} {τ : T} {as : List Sl} {i : Nat} {sl : Sl}, avL bs τ = some as → as[i]? = some sl →
    (∃ z, bs[i]? = some (.d z) ∧ sl = .val z) ∨ ∃ j, bs[i]? = some (.sl j) ∧ ((∃ d, τ[j]? = some (.val d) ∧ sl = .val d) ∨ ∃ s o, τ[j]? = some s ∧ s.mut = some o ∧ sl = .io o)
  | [], τ, as, i, sl, h, e => by cases h; simp at e
  | b :: bs, τ, as, i, sl, h, e => by
    have key : ∃ x as', avL bs τ = some as' ∧ as = x :: as' ∧ ((∃ z, b = .d z ∧ x = .val z) ∨ ∃ j, b = .sl j ∧ ((∃ d, τ[j]? = some (.val d) ∧ x = .val d) ∨ ∃ s o, τ[j]? = some s ∧ s.mut = some o ∧ x = .io o)) := by
      cases b with
      | d z =>
        obtain ⟨as', e1, rfl⟩ := map_some (show (avL bs τ).map (Sl.val z :: ·) = some as from h)
        exact ⟨_, as', e1, rfl, .inl ⟨z, rfl, rfl⟩⟩
      | sl j =>
        unfold avL at h
        cases q : τ[j]? with
        | none => rw [q] at h; cases h
        | some s =>
          rw [q] at h
          cases s with
          | no => cases h
          | val d => obtain ⟨as', e1, rfl⟩ := map_some h; exact ⟨_, as', e1, rfl, .inr ⟨j, rfl, .inl ⟨d, q, rfl⟩⟩⟩
          | own o => obtain ⟨as', e1, rfl⟩ := map_some h; exact ⟨_, as', e1, rfl, .inr ⟨j, rfl, .inr ⟨_, o, q, rfl, rfl⟩⟩⟩
          | io o => obtain ⟨as', e1, rfl⟩ := map_some h; exact ⟨_, as', e1, rfl, .inr ⟨j, rfl, .inr ⟨_, o, q, rfl, rfl⟩⟩⟩
    obtain ⟨x, as', e1, rfl, hx⟩ := key
    cases i with
    | zero =>
      have : x = sl := by simpa using e
      subst this
      rcases hx with ⟨z, rfl, rfl⟩ | ⟨j, rfl, hj⟩
      · exact .inl ⟨z, rfl, rfl⟩
      · exact .inr ⟨j, rfl, hj⟩
    | succ i => exact avL_get (bs := bs) (i := i) e1 (by simpa using e)
theorem avL_len : ∀ {bs : List BR} {τ : T} {as : List Sl}, avL bs τ = some as → as.length = bs.length
  | [], τ, as, h => by cases h; rfl
  | b :: bs, τ, as, h => by
    have key : ∃ x as', avL bs τ = some as' ∧ as = x :: as' := by
      cases b with
      | d z =>
        obtain ⟨as', e1, rfl⟩ := map_some (show (avL bs τ).map (Sl.val z :: ·) = some as from h)
        exact ⟨_, as', e1, rfl⟩
      | sl j =>
        unfold avL at h
        cases q : τ[j]? with
        | none => rw [q] at h; cases h
        | some s =>
          rw [q] at h
          cases s with
          | no => cases h
          | _ => obtain ⟨as', e1, rfl⟩ := map_some h; exact ⟨_, as', e1, rfl⟩
    obtain ⟨x, as', e1, rfl⟩ := key
    rw [List.length_cons, avL_len e1, List.length_cons]
theorem slL_mem : ∀ {bs : List BR} {i j : Nat}, bs[i]? = some (.sl j) → j ∈ slL bs
  | [], i, j, h => by simp at h
  | b :: bs, 0, j, h => by
    have : b = .sl j := by simpa using h
    subst this; simp [slL]
  | b :: bs, i + 1, j, h => by
    have := slL_mem (bs := bs) (i := i) (j := j) (by simpa using h)
    cases b with
    | d z => exact this
    | sl k => simp only [slL, List.mem_cons]; exact .inr this
theorem slL_inj : ∀ {bs : List BR} {i i' j : Nat}, (slL bs).Nodup → bs[i]? = some (.sl j) → bs[i']? = some (.sl j) → i = i'
  | [], i, i', j, n, h, h' => by simp at h
  | b :: bs, 0, 0, j, n, h, h' => rfl
  | b :: bs, 0, i' + 1, j, n, h, h' => by
    have e : b = .sl j := by simpa using h
    subst e
    have n : (j :: slL bs).Nodup := n
    exact absurd (slL_mem (i := i') (by simpa using h')) (List.nodup_cons.mp n).1
  | b :: bs, i + 1, 0, j, n, h, h' => by
    have e : b = .sl j := by simpa using h'
    subst e
    have n : (j :: slL bs).Nodup := n
    exact absurd (slL_mem (i := i) (by simpa using h)) (List.nodup_cons.mp n).1
  | b :: bs, i + 1, i' + 1, j, n, h, h' => by
    have n' : (slL bs).Nodup := by
      cases b with
      | d z => exact n
      | sl k => exact (List.nodup_cons.mp (show (k :: slL bs).Nodup from n)).2
    rw [slL_inj n' (i := i) (i' := i') (by simpa using h) (by simpa using h')]
/-- what stands behind putL -/
def PutAt (bs : List BR) (as : List Sl) (fs τ : T) (j : Nat) (sl : Sl) : Prop :=
  (τ[j]? = some sl ∧ ∀ (i : Nat) (o : OV), bs[i]? = some (BR.sl j) → as[i]? ≠ some (Sl.io o)) ∨ ∃ (i : Nat) (o0 o : OV) (s : Sl), bs[i]? = some (BR.sl j) ∧ as[i]? = some (Sl.io o0) ∧ fs[i]? = some (Sl.io o) ∧ τ[j]? = some s ∧ sl = s.put o
theorem putL_get : ∀ {bs : List BR} {as : List Sl} {fs τ τ' : T} {j : Nat} {sl : Sl}, (slL bs).Nodup → putL bs as fs τ = some τ' → τ'[j]? = some sl → PutAt bs as fs τ j sl
  | [], [], [], τ, τ', j, sl, n, h, e => by cases h; exact .inl ⟨e, fun i o z => by simp at z⟩
  | [], [], _ :: _, τ, τ', j, sl, n, h, e => by cases h
  | [], _ :: _, _, τ, τ', j, sl, n, h, e => by cases h
  | _ :: _, [], _, τ, τ', j, sl, n, h, e => by cases h
  | _ :: _, _ :: _, [], τ, τ', j, sl, n, h, e => by cases h
  | b :: bs, a :: as, f :: fs, τ, τ', j, sl, n, h, e => by
    have n' : (slL bs).Nodup := by
      cases b with
      | d z => exact n
      | sl k => exact (List.nodup_cons.mp (show (k :: slL bs).Nodup from n)).2
    have isv : ∀ z, a = .val z → putL bs as fs τ = some τ' → PutAt (b :: bs) (a :: as) (f :: fs) τ j sl := fun z ha h => by
      rcases putL_get n' h e with ⟨q1, q2⟩ | ⟨i, o0, o, s, q1, q2, q3, q4, q5⟩
      · refine .inl ⟨q1, fun i o z1 z2 => ?_⟩
        cases i with
        | zero => rw [ha] at z2; simp at z2
        | succ i => exact q2 i o (by simpa using z1) (by simpa using z2)
      · exact .inr ⟨i + 1, o0, o, s, by simpa using q1, by simpa using q2, by simpa using q3, q4, q5⟩
    cases a with
    | val z =>
      refine isv z rfl ?_
      unfold putL at h
      cases b <;> exact h
    | no => unfold putL at h; cases b <;> cases h
    | own o => unfold putL at h; cases b <;> cases h
    | io o0 =>
      cases b with
      | d z => unfold putL at h; cases h
      | sl k =>
        cases f with
        | io o =>
          have h : putL bs as fs (τ.set k ((τ.getD k .no).put o)) = some τ' := h
          have nk : k ∉ slL bs := (List.nodup_cons.mp (show (k :: slL bs).Nodup from n)).1
          rcases putL_get n' h e with ⟨q1, q2⟩ | ⟨i, o1, o', s, q1, q2, q3, q4, q5⟩
          · rcases get_set q1 with ⟨rfl, q, hl⟩ | ⟨hne, q1⟩
            · refine .inr ⟨0, o0, o, τ.getD j .no, rfl, rfl, rfl, ?_, q⟩
              simp [List.getD, hl]
            · refine .inl ⟨q1, fun i o z1 z2 => ?_⟩
              cases i with
              | zero =>
                have : k = j := by simpa using z1
                exact hne this.symm
              | succ i => exact q2 i o (by simpa using z1) (by simpa using z2)
          · have : j ≠ k := fun z => nk (by rw [← z]; exact slL_mem (i := i) q1)
            rw [List.getElem?_set_ne (Ne.symm this)] at q4
            exact .inr ⟨i + 1, o1, o', s, by simpa using q1, by simpa using q2, by simpa using q3, q4, q5⟩
        | _ => unfold putL at h; cases h
theorem putL_len : ∀ {bs : List BR} {as : List Sl} {fs τ τ' : T}, putL bs as fs τ = some τ' → τ'.length = τ.length
  | [], [], [], τ, τ', h => by cases h; rfl
  | [], [], _ :: _, τ, τ', h => by cases h
  | [], _ :: _, _, τ, τ', h => by cases h
  | _ :: _, [], _, τ, τ', h => by cases h
  | _ :: _, _ :: _, [], τ, τ', h => by cases h
  | b :: bs, a :: as, f :: fs, τ, τ', h => by
    unfold putL at h
    cases a with
    | val z => cases b <;> exact putL_len h
    | no => cases b <;> cases h
    | own o => cases b <;> cases h
    | io o0 =>
      cases b with
      | d z => cases h
      | sl k =>
        cases f with
        | io o => rw [putL_len h, List.length_set]
        | _ => cases h
theorem BRL.get {K : PySem.W.Frag} {F : Hp} {σ : St} : ∀ {vs : List V} {bs : List BR}, BRL K F σ vs bs → ∀ {i : Nat} {b : BR}, bs[i]? = some b → ∃ v, vs[i]? = some v ∧ BRep K F σ v b
  | _, _, .nil, i, b, e => by simp at e
  | _, _, .cons h r, 0, b, e => by simp at e; subst e; exact ⟨_, rfl, h⟩
  | _, _, .cons h r, i + 1, b, e => r.get (i := i) (by simpa using e)
theorem BRL.length {K : PySem.W.Frag} {F : Hp} {σ : St} : ∀ {vs : List V} {bs : List BR}, BRL K F σ vs bs → vs.length = bs.length
  | _, _, .nil => rfl
  | _, _, .cons _ r => congrArg (· + 1) r.length
def refAt (vs : List V) (i : Nat) : Addr := match vs[i]? with
  | some (.ref a) => a
  | _ => 0
def callM (H : Hp) (vs : List V) (as : List Sl) : MS := ⟨fun a => H a = none ∨ ∃ (i : Nat) (o : OV), as[i]? = some (Sl.io o) ∧ vs[i]? = some (V.ref a), refAt vs⟩
section
variable {K : PySem.W.Frag} {px : PX} {M : MS} {F H F' H' : Hp} {σ : St} {τ τ' : T} {vs : List V} {bs : List BR} {as : List Sl} {fs : T}
/-- the lent slot of an argument -/
theorem lent (s : SRel K M F H σ τ) (rb : BRL K F σ vs bs) (ea : avL bs τ = some as) {i : Nat} {o : OV} (h : as[i]? = some (.io o)) : ∃ j sl a u, bs[i]? = some (.sl j) ∧ τ[j]? = some sl ∧ sl.mut = some o ∧ vs[i]? = some (V.ref a) ∧ σ[j]? = some (some (V.ref a)) ∧ H a = some u ∧ F a = none ∧ M.m a ∧ OwnO K F o u := by
  rcases avL_get ea h with ⟨z, _, q⟩ | ⟨j, hb, ⟨d, _, q⟩ | ⟨sl, o', h1, h2, q⟩⟩
  · cases q
  · cases q
  · cases q
    obtain ⟨v, hv, rv⟩ := rb.get hb
    have rv : σ[j]? = some (some v) := rv
    obtain ⟨a, u, p1, p2, p3, p4, p5⟩ := s.own j sl _ h1 h2
    rw [p1] at rv
    cases rv
    exact ⟨j, sl, a, u, hb, h1, h2, hv, p1, p2, p3, p4, p5⟩
theorem callM_sub (s : SRel K M F H σ τ) (rb : BRL K F σ vs bs) (ea : avL bs τ = some as) : ∀ a, (callM H vs as).m a → M.m a := fun a h => by
  rcases h with h | ⟨i, o, h1, h2⟩
  · exact s.up a h
  · obtain ⟨j, sl, b, u, _, _, _, q, _, _, _, q2, _⟩ := lent s rb ea h1
    rw [q] at h2
    cases h2
    exact q2
theorem map_get {i : Nat} {v : V} (h : vs[i]? = some v) : (vs.map some)[i]? = some (some v) := by rw [List.getElem?_map, h]; rfl
theorem SRel.call (s : SRel K M F H σ τ) (rb : BRL K F σ vs bs) (ea : avL bs τ = some as) (nd : (slL bs).Nodup) : SRel K (callM H vs as) F H (vs.map some) as := by
  refine ⟨by rw [List.length_map, avL_len ea, rb.length]; exact Nat.le_refl _, fun a h => .inl h, s.sub, fun i d h => ?_, fun i sl o h m => ?_, fun i j sl tl b h1 m1 h2 m2 f1 f2 => ?_, fun i o h => ?_⟩
  · rcases avL_get ea h with ⟨z, hb, q⟩ | ⟨j, hb, ⟨d', h1, q⟩ | ⟨sl, o', h1, h2, q⟩⟩
    · cases q
      obtain ⟨v, hv, rv⟩ := rb.get hb
      exact ⟨v, map_get hv, rv⟩
    · cases q
      obtain ⟨v, hv, rv⟩ := rb.get hb
      have rv : σ[j]? = some (some v) := rv
      obtain ⟨v', p1, p2⟩ := s.val j _ h1
      rw [p1] at rv
      cases rv
      exact ⟨v, map_get hv, p2⟩
    · cases q
  · have hio : sl = .io o := by
      rcases avL_get ea h with ⟨z, _, q⟩ | ⟨j, hb, ⟨d', h1, q⟩ | ⟨sl', o', h1, h2, q⟩⟩
      · subst q; cases m
      · subst q; cases m
      · subst q; cases m; rfl
    subst hio
    obtain ⟨j, sl, a, u, q0, q1, q2, q3, q4, q5, q6, q7, q8⟩ := lent s rb ea h
    exact ⟨a, u, map_get q3, q5, q6, .inr ⟨i, o, h, q3⟩, q8⟩
  · have io : ∀ {i : Nat} {sl : Sl}, as[i]? = some sl → sl.mut ≠ none → ∃ o, sl = .io o := fun {i sl} h m => by
      rcases avL_get ea h with ⟨z, _, q⟩ | ⟨j, hb, ⟨d', h1, q⟩ | ⟨sl', o', h1, h2, q⟩⟩
      · subst q; exact absurd rfl m
      · subst q; exact absurd rfl m
      · exact ⟨o', q⟩
    obtain ⟨o1, rfl⟩ := io h1 m1
    obtain ⟨o2, rfl⟩ := io h2 m2
    obtain ⟨k1, sl1, a1, u1, q0, q1, q2, q3, q4, _⟩ := lent s rb ea h1
    obtain ⟨k2, sl2, a2, u2, r0, r1, r2, r3, r4, _⟩ := lent s rb ea h2
    rw [map_get q3] at f1
    rw [map_get r3] at f2
    cases f1
    cases f2
    have := s.apart k1 k2 sl1 sl2 _ q1 (by rw [q2]; exact fun z => nomatch z) r1 (by rw [r2]; exact fun z => nomatch z) q4 r4
    subst this
    exact slL_inj nd q0 r0
  · obtain ⟨j, sl, a, u, q0, q1, q2, q3, _⟩ := lent s rb ea h
    rw [map_get q3]
    show some (some (V.ref a)) = some (some (V.ref (refAt vs i)))
    unfold refAt
    rw [q3]
theorem put_mut {s : Sl} {o : OV} : (s.put o).mut = some o := by cases s <;> rfl
/-- behind the call -/
theorem SRel.back (s : SRel K M F H σ τ) (rb : BRL K F σ vs bs) (ea : avL bs τ = some as) (nd : (slL bs).Nodup) (g : Grow (callM H vs as) F H F' H') (s' : SRel K (callM H vs as) F' H' (vs.map some) fs) (ep : putL bs as fs τ = some τ') :
    SRel K M F' H' σ τ' := by
  have was : ∀ {j : Nat} {sl : Sl}, τ'[j]? = some sl → sl.mut ≠ none → ∃ s0, τ[j]? = some s0 ∧ s0.mut ≠ none := fun {j sl} h m => by
    rcases putL_get nd ep h with ⟨q, _⟩ | ⟨i, o0, o, s0, q1, q2, q3, q4, q5⟩
    · exact ⟨sl, q, m⟩
    · obtain ⟨j', sl', a, u, p0, p1, p2, _⟩ := lent s rb ea q2
      rw [q1] at p0
      cases p0
      exact ⟨sl', p1, by rw [p2]; exact fun z => nomatch z⟩
  refine ⟨by rw [putL_len ep]; exact s.len, fun a e => s.up a (g.there a e), s'.sub, fun j d h => ?_, fun j sl o h m => ?_, fun i j sl tl b h1 m1 h2 m2 f1 f2 => ?_, fun j o h => ?_⟩
  · rcases putL_get nd ep h with ⟨q, _⟩ | ⟨i, o0, o, s0, q1, q2, q3, q4, q5⟩
    · obtain ⟨v, e, r⟩ := s.val j d q
      exact ⟨v, e, r.mono g.frz⟩
    · cases s0 <;> cases q5
  · rcases putL_get nd ep h with ⟨q, un⟩ | ⟨i, o0, o', s0, q1, q2, q3, q4, q5⟩
    · obtain ⟨a, u, p1, p2, p3, p4, p5⟩ := s.own j sl o q m
      have out : ¬ (callM H vs as).m a := fun z => by
        rcases z with z | ⟨i, o1, z1, z2⟩
        · rw [p2] at z; cases z
        · obtain ⟨k, sk, b, w, r0, r1, r2, r3, r4, _⟩ := lent s rb ea z1
          rw [r3] at z2
          cases z2
          have := s.apart j k sl sk a q (by rw [m]; exact fun z => nomatch z) r1 (by rw [r2]; exact fun z => nomatch z) p1 r4
          subst this
          exact un i o1 r0 z1
      exact ⟨a, u, p1, g.keep a u p2 out, g.free a p3 (by rw [p2]; exact fun z => nomatch z) out, p4, p5.mono g.frz⟩
    · subst q5
      rw [put_mut] at m
      cases m
      obtain ⟨k, sk, b, w, r0, r1, r2, r3, r4, r5, r6, r7, _⟩ := lent s rb ea q2
      rw [q1] at r0
      cases r0
      obtain ⟨a, u, p1, p2, p3, p4, p5⟩ := s'.own i _ _ q3 rfl
      rw [map_get r3] at p1
      cases p1
      exact ⟨b, u, r4, p2, p3, r7, p5⟩
  · obtain ⟨s1, q1, n1⟩ := was h1 m1
    obtain ⟨s2, q2, n2⟩ := was h2 m2
    exact s.apart i j s1 s2 b q1 n1 q2 n2 f1 f2
  · rcases putL_get nd ep h with ⟨q, _⟩ | ⟨i, o0, o', s0, q1, q2, q3, q4, q5⟩
    · exact s.io j o q
    · cases s0 with
      | io o1 => exact s.io j o1 q4
      | _ => cases q5
theorem OwnR.back {v : V} {o : OV} (s : SRel K M F H σ τ) (rb : BRL K F σ vs bs) (ea : avL bs τ = some as) (nd : (slL bs).Nodup) (g : Grow (callM H vs as) F H F' H') (s' : SRel K (callM H vs as) F' H' (vs.map some) fs) (ep : putL bs as fs τ = some τ')
    (h : OwnR K (callM H vs as) F' H' (vs.map some) fs v o) : OwnR K M F' H' σ τ' v o := by
  obtain ⟨a, u, h1, h2, h3, h4, h5, h6⟩ := h
  refine ⟨a, u, h1, h2, h3, callM_sub s rb ea a h4, h5, fun j sl e m z => ?_⟩
  rcases putL_get nd ep e with ⟨q, un⟩ | ⟨i, o0, o', s0, q1, q2, q3, q4, q5⟩
  · obtain ⟨o1, e1⟩ := Option.ne_none_iff_exists'.mp m
    obtain ⟨b, w, p1, p2, p3, p4, p5⟩ := s.own j sl o1 q e1
    rw [p1] at z
    cases z
    rcases h4 with h4 | ⟨i, o2, z1, z2⟩
    · rw [p2] at h4; cases h4
    · obtain ⟨k, sk, b', w', r0, r1, r2, r3, r4, _⟩ := lent s rb ea z1
      rw [r3] at z2
      cases z2
      have := s.apart j k sl sk a q m r1 (by rw [r2]; exact fun z => nomatch z) p1 r4
      subst this
      exact un i o2 r0 z1
  · obtain ⟨k, sk, b', w', r0, r1, r2, r3, r4, _⟩ := lent s rb ea q2
    rw [q1] at r0
    cases r0
    rw [r4] at z
    cases z
    exact h6 i _ q3 (fun z => nomatch z) (map_get r3)
end
section
variable {px : PX} {W : WX} {X : Cx} {k : Nat} {f : Addr} {fd : FuncData} {ps : List Str} {x : Str} {p pos : Pos} {e : Expr} {es : List Expr}
theorem rd_call {K : PySem.W.Frag} {den : List Sl → DR} {fa : T → Rs (List BR)} {n : Nat} {σ : St} {H : Hp} {Q : VK} (hn : ∀ τ bs τ1, fa τ = .ok bs τ1 → bs.length = n) (h : rdX K px W (sCall den fa) σ H Q) :
    (∃ M F τ, SRel K M F H σ τ ∧ Post K px W M F H σ (fa τ) fun bs _ F' H' => ∀ vs, BRL K F' σ vs bs → spOf K px n den vs H' Q (WE W σ)) := by
  obtain ⟨M, F, τ, s, p⟩ := h
  refine ⟨M, F, τ, s, ?_⟩
  unfold sCall at p
  cases ef : fa τ with
  | stuck => rw [ef] at p; exact p.elim
  | exc y t => rw [ef] at p; exact p
  | ok bs τ1 =>
    rw [ef] at p
    intro F1 H1 g1 s1 vs rb
    have hl := hn _ _ _ ef
    have p : Post K px W M F H σ (if (slL bs).Nodup then (match avL bs τ1 with
      | some as => (match den as with
        | .ok r fs => (match putL bs as fs τ1 with | some τ2 => .ok r τ2 | none => .stuck)
        | .exc x fs => (match putL bs as fs τ1 with | some τ2 => .exc x τ2 | none => .stuck)
        | .stuck => .stuck)
      | none => .stuck) else .stuck) (RX K M σ Q) := p
    by_cases nd : (slL bs).Nodup
    · rw [if_pos nd] at p
      cases ea : avL bs τ1 with
      | none => rw [ea] at p; exact p.elim
      | some as =>
        simp only [ea] at p
        refine ⟨callM H1 vs as, F1, as, by rw [rb.length, hl], by rw [avL_len ea, hl], s1.call rb ea nd, ?_⟩
        have gm : ∀ {F' H' : Hp}, Grow (callM H1 vs as) F1 H1 F' H' → Grow M F H F' H' := fun g => g1.trans (g.mono (callM_sub s1 rb ea))
        cases ed : den as with
        | stuck => rw [ed] at p; exact p.elim
        | exc y fs =>
          simp only [ed] at p
          cases ep : putL bs as fs τ1 with
          | none => rw [ep] at p; exact p.elim
          | some τ2 =>
            simp only [ep] at p
            exact fun F' H' g' s' dd xd => p F' H' (gm g') (s1.back rb ea nd g' s' ep) dd xd
        | ok r fs =>
          simp only [ed] at p
          cases ep : putL bs as fs τ1 with
          | none => rw [ep] at p; exact p.elim
          | some τ2 =>
            simp only [ep] at p
            cases r with
            | d z => exact fun v F' H' g' s' rv => p F' H' (gm g') (s1.back rb ea nd g' s' ep) v rv
            | o z => exact fun v F' H' g' s' rv => p F' H' (gm g') (s1.back rb ea nd g' s' ep) v (rv.back s1 rb ea nd g' s' ep)
    · rw [if_neg nd] at p; exact p.elim
theorem jx_call {den : List Sl → DR} {fa : T → Rs (List BR)} {n : Nat} (F : FnOk X.prog X.w X.K X.mg X.base (L2.CX X.prog X.w) k f fd ps (spOf X.K px n den)) (hr : Room k X.A) (hg : Gl X x) (hm : X.mg x = some (.ref f)) (hk : PySem.W.keepIn X.K (.ref f) = true) (hb : Binds X.K fd ps []) (tk : Takes X W)
    (ha : JAB px W X (e :: es) fa) (hn : ∀ τ bs τ1, fa τ = .ok bs τ1 → bs.length = n) (hdb : (x == ("__debug__" : Str)) = false) (he : starEach (e :: es) X.env = (false, eval e X.env) :: starEach es X.env) (hpl : (backTo pos (starEach es X.env)).any (·.1) = false) :
    JX px W X (.Call (.Name x p) (e :: es) [] pos) (sCall den fa) :=
  PE.imp (pe_callS F hr hg hm hk hb (fun σ => passAt tk σ) ha hdb he hpl) fun σ H Q h => rd_call hn h
theorem pe_callS0 {CX : CXT} {sp : Sp} {E : St → XK} (F : FnOk X.prog X.w X.K X.mg X.base CX k f fd ps sp) (hr : Room k X.A) (hg : Gl X x) (hm : X.mg x = some (.ref f)) (hk : PySem.W.keepIn X.K (.ref f) = true) (hb : Binds X.K fd ps []) (hx : ∀ σ, PassesAt CX X σ (E σ))
    (hdb : (x == ("__debug__" : Str)) = false) : PE X (.Call (.Name x p) [] [] pos) (tCallS sp E tNil) := by
  refine ⟨fun pins s σ H Q I h => ?_⟩
  refine wpAny_Call_Name_kw (ld_glob I hg hm ?_ hdb)
  exact PySem.W.callWith_K0 I.kIn hk (run_fnS (us := []) F hr hb (hx σ) I .nil h)
theorem jx_call0 {den : List Sl → DR} (F : FnOk X.prog X.w X.K X.mg X.base (L2.CX X.prog X.w) k f fd ps (spOf X.K px 0 den)) (hr : Room k X.A) (hg : Gl X x) (hm : X.mg x = some (.ref f)) (hk : PySem.W.keepIn X.K (.ref f) = true) (hb : Binds X.K fd ps []) (tk : Takes X W)
    (hdb : (x == ("__debug__" : Str)) = false) : JX px W X (.Call (.Name x p) [] [] pos) (sCall den sBNil) :=
  PE.imp (pe_callS0 F hr hg hm hk hb (fun σ => passAt tk σ) hdb) fun σ H Q h => by
    obtain ⟨M, F, τ, s, p⟩ := rd_call (n := 0) (fun τ bs τ1 e => by cases e; rfl) h
    exact p F H .refl s [] .nil
end
end U
end

section
set_option Elab.async false
set_option linter.all false
set_option maxRecDepth 100000
namespace U
open PySem PySem.Spec PyProof.Rows L2

/-! ### sum of a tuple, min, max -/
theorem preSum_getD (ns : List Int) : ∀ k, k ≤ ns.length → preSum (fun i => ns.getD i 0) k = (ns.take k).sum
  | 0, _ => by simp [preSum]
  | k + 1, h => by
    have hk : k < ns.length := h
    rw [preSum, preSum_getD ns k (Nat.le_of_lt hk), List.take_add_one, List.sum_append]
    simp [List.getD, hk]
theorem ints_at : ∀ {its : List Value} {ns : List Int}, Vals (ns.map V.int) its → ∀ (i : Nat) (v : Value), its[i]? = some v → ∃ t, v = .int (ns.getD i 0) t
  | _, [], .nil, i, v, h => by simp at h
  | _, n :: ns, .cons r t, 0, v, h => by
    obtain ⟨t, rfl⟩ := r
    have : v = .int n t := by simpa using h.symm
    exact ⟨t, by simpa using this⟩
  | _, n :: ns, .cons r t, i + 1, v, h => by
    obtain ⟨t', e⟩ := ints_at t i v (by simpa using h)
    exact ⟨t', by simpa using e⟩
section
variable {X : Cx}
theorem sum_tupR (hc : X.calm = true) {pins : List (Addr × Obj)} {s : Shared} {σ : St} {H : Hp} {Q : VK} {a : Addr} {ns : List Int} (I : Inv X pins σ H s) (hq : SqT X.K H a (ns.map V.int)) (q : Q (.int ns.sum) H) :
    wpAny (model X.prog X.w) X.A (call (.builtin "sum") [.ref a]) (EP X pins σ Q) X.xe s := by
  obtain ⟨its, rv, p, _⟩ := I.tuple hq
  have hl : its.length = ns.length := by rw [← rv.length]; simp
  refine call_sum_walkAnyS (PySem.W.iter_tupleW (A := X.A.in1) (I.ok.hd hc) (show s.heap.IsTuple a its.toArray from p) fun s₂ e W st hfp hw hk => ?_)
  refine ⟨_, _, _, _, _, _, _, fun i => ns.getD i 0, rfl, W, st, hfp, fun i v hv => ints_at rv i v (by simpa using hv), fun s' t' m => ?_⟩
  obtain ⟨h', tk, rfl, hk'⟩ := PySem.W.moved_old e rfl m
  have e1 : preSum (fun i => ns.getD i 0) its.toArray.size = ns.sum := by
    rw [preSum_getD ns _ (by simp; omega), List.take_of_length_le (by simp; omega)]
  exact ⟨.int ns.sum, H, I.kept hk', ⟨t', by rw [e1]⟩, q⟩
def gSum2 : D → Option PR
  | .lst ds => (U.intsOf ds).map fun bs => .d (.int bs.sum)
  | .tup ds => (U.intsOf ds).map fun bs => .d (.int bs.sum)
  | _ => none
theorem cr_sum2 (hc : X.calm = true) : CallR X (.builtin "sum") (rC X.K (g1 gSum2)) := by
  intro pins s σ H xs us Q I rs ⟨F, ds, r, sb, n, hg, pw⟩
  obtain ⟨d, rfl, hg⟩ := g1_some hg
  obtain ⟨x, rfl, n1⟩ := n.one
  cases d <;> first | (cases hg; done) | skip
  · obtain ⟨bs, e1, rfl⟩ := map_some hg
    obtain ⟨a, vs, rfl, ha, r1⟩ := n1.tup sb
    rw [ints_rep r1 e1] at ha
    obtain ⟨u, rfl, ru⟩ := rs.one
    cases ru
    exact sum_tupR hc I (.of ha) (pw.scal sb (.int _))
  · obtain ⟨bs, e1, rfl⟩ := map_some hg
    obtain ⟨a, vs, rfl, ha, r1⟩ := n1.lst sb
    rw [ints_rep r1 e1] at ha
    exact cr_sum hc pins s σ H _ us Q I rs ⟨a, bs, rfl, .of ha, pw.scal sb (.int _)⟩
def minI : Int → List Int → Int
  | m, [] => m
  | m, n :: ns => minI (if n < m then n else m) ns
def maxI : Int → List Int → Int
  | m, [] => m
  | m, n :: ns => maxI (if m < n then n else m) ns
theorem minI_le : ∀ (ns : List Int) (m : Int), minI m ns ≤ m ∧ ∀ n ∈ ns, minI m ns ≤ n
  | [], m => ⟨Int.le_refl _, fun n h => by cases h⟩
  | k :: ns, m => by
    obtain ⟨h1, h2⟩ := minI_le ns (if k < m then k else m)
    have hk : (if k < m then k else m) ≤ m ∧ (if k < m then k else m) ≤ k := by split <;> omega
    unfold minI
    refine ⟨Int.le_trans h1 hk.1, fun n hn => ?_⟩
    rcases List.mem_cons.mp hn with rfl | hn
    · exact Int.le_trans h1 hk.2
    · exact h2 n hn
theorem maxI_le : ∀ (ns : List Int) (m : Int), m ≤ maxI m ns ∧ ∀ n ∈ ns, n ≤ maxI m ns
  | [], m => ⟨Int.le_refl _, fun n h => by cases h⟩
  | k :: ns, m => by
    obtain ⟨h1, h2⟩ := maxI_le ns (if m < k then k else m)
    have hk : m ≤ (if m < k then k else m) ∧ k ≤ (if m < k then k else m) := by split <;> omega
    unfold maxI
    refine ⟨Int.le_trans hk.1 h1, fun n hn => ?_⟩
    rcases List.mem_cons.mp hn with rfl | hn
    · exact Int.le_trans hk.2 h1
    · exact h2 n hn
theorem minI_mem : ∀ (ns : List Int) (m : Int), minI m ns = m ∨ minI m ns ∈ ns
  | [], m => .inl rfl
  | k :: ns, m => by
    unfold minI
    rcases minI_mem ns (if k < m then k else m) with h | h
    · rw [h]; split
      · exact .inr (List.mem_cons_self ..)
      · exact .inl rfl
    · exact .inr (List.mem_cons_of_mem _ h)
theorem maxI_mem : ∀ (ns : List Int) (m : Int), maxI m ns = m ∨ maxI m ns ∈ ns
  | [], m => .inl rfl
  | k :: ns, m => by
    unfold maxI
    rcases maxI_mem ns (if m < k then k else m) with h | h
    · rw [h]; split
      · exact .inr (List.mem_cons_self ..)
      · exact .inl rfl
    · exact .inr (List.mem_cons_of_mem _ h)
def gMin : List D → Option PR
  | [.lst ds] => (match U.intsOf ds with
    | some (n :: ns) => some (.d (.int (minI n ns)))
    | _ => none)
  | [.int i, .int j] => some (.d (.int (if j < i then j else i)))
  | _ => none
def gMax : List D → Option PR
  | [.lst ds] => (match U.intsOf ds with
    | some (n :: ns) => some (.d (.int (maxI n ns)))
    | _ => none)
  | [.int i, .int j] => some (.d (.int (if j > i then j else i)))
  | _ => none
theorem cr_minU (hc : X.calm = true) : CallR X (.builtin "min") (rC X.K gMin) := by
  intro pins s σ H xs us Q I rs ⟨F, ds, r, sb, n, hg, pw⟩
  unfold gMin at hg
  split at hg
  · rename_i es
    obtain ⟨x, rfl, n1⟩ := n.one
    split at hg
    · rename_i k ns e1
      cases hg
      obtain ⟨a, vs, rfl, ha, r1⟩ := n1.lst sb
      rw [ints_rep r1 e1] at ha
      refine cr_min hc pins s σ H _ us Q I rs ⟨a, k :: ns, rfl, .of ha, by simp, fun m hm hle => ?_⟩
      have h1 := minI_le ns k
      have : m = minI k ns := by
        have a1 := hle (minI k ns) ((minI_mem ns k).elim (fun q => by rw [q]; exact List.mem_cons_self ..) fun q => List.mem_cons_of_mem _ q)
        have a2 : minI k ns ≤ m := by
          rcases List.mem_cons.mp hm with rfl | hm
          · exact h1.1
          · exact h1.2 m hm
        omega
      rw [this]; exact pw.scal sb (.int _)
    · cases hg
  · obtain ⟨x, y, rfl, n1, n2⟩ := n.two
    cases hg
    exact call_min2 hc pins s σ H _ us Q I rs ⟨_, _, by rw [n1.int, n2.int], pw.scal sb (.int _)⟩
  · cases hg
theorem cr_maxU (hc : X.calm = true) : CallR X (.builtin "max") (rC X.K gMax) := by
  intro pins s σ H xs us Q I rs ⟨F, ds, r, sb, n, hg, pw⟩
  unfold gMax at hg
  split at hg
  · rename_i es
    obtain ⟨x, rfl, n1⟩ := n.one
    split at hg
    · rename_i k ns e1
      cases hg
      obtain ⟨a, vs, rfl, ha, r1⟩ := n1.lst sb
      rw [ints_rep r1 e1] at ha
      refine cr_max hc pins s σ H _ us Q I rs ⟨a, k :: ns, rfl, .of ha, by simp, fun m hm hle => ?_⟩
      have h1 := maxI_le ns k
      have : m = maxI k ns := by
        have a1 := hle (maxI k ns) ((maxI_mem ns k).elim (fun q => by rw [q]; exact List.mem_cons_self ..) fun q => List.mem_cons_of_mem _ q)
        have a2 : m ≤ maxI k ns := by
          rcases List.mem_cons.mp hm with rfl | hm
          · exact h1.1
          · exact h1.2 m hm
        omega
      rw [this]; exact pw.scal sb (.int _)
    · cases hg
  · obtain ⟨x, y, rfl, n1, n2⟩ := n.two
    cases hg
    exact call_max2 hc pins s σ H _ us Q I rs ⟨_, _, by rw [n1.int, n2.int], pw.scal sb (.int _)⟩
  · cases hg
end
/-! ### a op b op c -/
section
variable {px : PX} {W : WX} {X : Cx} {pos : Pos} {a b c : Expr} {g g' : D → D → Option PR} {fa fb fc : T → Rs BR}
def sChain (g g' : D → D → Option PR) (fa fb fc : T → Rs BR) : T → Rs PR := fun τ => (fa τ).bind fun x τ1 => (fb τ1).bind fun y τ2 => (ap2 g x y τ2).bind fun r τ3 => match r with
  | .d (.bl true) => (fc τ3).bind fun z τ4 => ap2 g' y z τ4
  | .d (.bl false) => .ok (.d (.bl false)) τ3
  | _ => .stuck
theorem rd_chain {K : PySem.W.Frag} {σ : St} {H : Hp} {Q : VK} (h : rdX K px W (sChain g g' fa fb fc) σ H Q) : tChain (r2 K g) (r2 K g') (rdB K px W fa) (rdB K px W fb) (rdB K px W fc) σ H Q := by
  obtain ⟨M, F, τ, s, p⟩ := h
  refine rdB_bind s p fun x τ1 F1 H1 v g1 s1 rv p1 => rdB_bind s1 p1 fun y τ2 F2 H2 u g2 s2 ru p2 => ?_
  obtain ⟨d, e, r, e1, e2, e3, p3⟩ : ∃ d e r, x.at τ2 = some d ∧ y.at τ2 = some e ∧ g d e = some r ∧ ap2 g x y τ2 = .ok r τ2 := by
    unfold ap2 at p2 ⊢
    cases q1 : x.at τ2 with
    | none => simp only [q1] at p2; exact p2.elim
    | some d => cases q2 : y.at τ2 with
      | none => simp only [q1, q2] at p2; exact p2.elim
      | some e =>
        cases q3 : g d e with
        | none => simp only [q1, q2, q3] at p2; exact p2.elim
        | some r => exact ⟨d, e, r, rfl, rfl, q3, by simp only [q3]⟩
  rw [p3] at p2
  refine ⟨F2, d, e, r, s2.sub, (rv.mono g2.frz).now s2 e1, ru.now s2 e2, e3, ?_⟩
  have p2 : Post K px W M F2 H2 σ (match r with
    | .d (.bl true) => (fc τ2).bind fun z τ4 => ap2 g' y z τ4
    | .d (.bl false) => .ok (.d (.bl false)) τ2
    | _ => .stuck) (RX K M σ Q) := p2
  cases r with
  | o z => exact p2.elim
  | d z =>
    cases z with
    | bl k =>
      intro w F3 H3 n3 rw'
      cases rw'
      refine ⟨k, rfl, ?_⟩
      have g3 : Grow M F2 H2 F3 H3 := n3.grow
      have s3 := n3.srel s2
      cases k with
      | true =>
        rw [if_pos rfl]
        refine rdB_bind s3 (Post.from p2 g3) fun z τ4 F4 H4 w g4 s4 rw' p4 => ?_
        obtain ⟨d', e', r', e1', e2', e3', p5⟩ := ap2_ok p4
        exact ⟨F4, d', e', r', s4.sub, (ru.mono (g3.frz.trans g4.frz)).now s4 e1', rw'.now s4 e2', e3', p5.pw s4⟩
      | false =>
        rw [if_neg Bool.false_ne_true]
        exact p2 F3 H3 g3 s3 _ (.bl false)
    | _ => exact p2.elim
theorem jx_chain {op op' : CmpOp} (ho : OpR X (compareOp op) (r2 X.K g)) (ho' : OpR X (compareOp op') (r2 X.K g')) (ha : JB px W X a fa) (hb : JB px W X b fb) (hc : JB px W X c fc) (hm : lastMarks [op, op'] [b, c] = false) :
    JX px W X (.Compare a [op, op'] [b, c] pos) (sChain g g' fa fb fc) := PE.imp (pe_chain ho ho' ha hb hc hm) fun σ H Q h => rd_chain h
theorem jt_chain {op op' : CmpOp} (ho : OpR X (compareOp op) (r2 X.K g)) (ho' : OpR X (compareOp op') (r2 X.K g')) (ha : JB px W X a fa) (hb : JB px W X b fb) (hc : JB px W X c fc) (hm : lastMarks [op, op'] [b, c] = false) :
    JT px W X (.Compare a [op, op'] [b, c] pos) (sTB (sChain g g' fa fb fc)) := PT.imp (pt_chain ho ho' ha hb hc hm) fun σ H Q h => rd_chain (rd_tb h)
end
end U
end

section
set_option Elab.async false
set_option linter.all false
set_option maxRecDepth 100000
namespace U
open PySem PySem.Spec PyProof.Rows L2

/-! ### isinstance -/
def D.ty : D → Option String
  | .non => some "NoneType"
  | .bl _ => some "bool"
  | .int _ => some "int"
  | .str _ => some "str"
  | .tup _ => some "tuple"
  | .lst _ => some "list"
  | _ => none
theorem Now.tyX {K : PySem.W.Frag} {F H : Hp} {v : V} {d : D} {t : String} (s : Sub F H) (n : Now K F H v d) (e : d.ty = some t) : TyX K H v (.type t) := by
  cases d with
  | non => cases e; rw [n.non]; exact .base .non
  | bl b => cases e; rw [n.bl]; exact .base (.bl _)
  | int b => cases e; rw [n.int]; exact .base (.int _)
  | str b => cases e; rw [n.str]; exact .base (.str _)
  | tup b => cases e; obtain ⟨a, vs, rfl, h, _⟩ := n.tup s; exact .base (.tup h)
  | lst b => cases e; obtain ⟨a, vs, rfl, h, _⟩ := n.lst s; exact .base (.lst h)
  | _ => cases e
section
variable {px : PX} {W : WX} {X : Cx} {pos : Pos} {e : Expr}
theorem pe_tyn {x : Str} {id : String} (hg : Gl X x) (hm : X.mg x = none) (hv : bootBuiltins x = some (.type id)) (hn : x ≠ "__name__") (hdb : (x == ("__debug__" : Str)) = false) : PE X (.Name x pos) (tC (.ty id)) :=
  ⟨fun pins s σ H Q I h => ld_blt I hg hm hv ⟨.ty id, H, I, rfl, h⟩ hn hdb⟩
def isB (t : String) (cs : List String) : Bool := cs.any fun c => t == c || (t == "bool" && c == "int")
def sIsi (cs : List String) (f : T → Rs BR) : T → Rs PR := fun τ => (f τ).bind fun x τ1 => match x.at τ1 with
  | some d => (match d.ty with
    | some t => .ok (.d (.bl (isB t cs))) τ1
    | none => .stuck)
  | none => .stuck
def tys : List String := ["NoneType", "bool", "int", "str", "tuple", "list"]
def cls6 : List String := ["bool", "int", "str", "tuple", "list", "dict"]
theorem ty_mem {d : D} {t : String} (h : d.ty = some t) : t ∈ tys := by cases d <;> cases h <;> simp [tys]
theorem kit_all : ∀ t ∈ tys, ∀ c ∈ cls6, kitB t c = some (isB t [c]) := by decide +kernel
theorem kit_any {K : PySem.W.Frag} {t : String} (ht : t ∈ tys) : ∀ cs : List String, (∀ c ∈ cs, c ∈ cls6) → PySem.W.kitAny K (.type t) (cs.map Value.type) = some (isB t cs)
  | [], _ => rfl
  | c :: cs, h => by
    have h1 := kit_all t ht c (h c (List.mem_cons_self ..))
    have h2 := kit_any (K := K) ht cs fun z hz => h z (List.mem_cons_of_mem _ hz)
    have e1 : isB t (c :: cs) = (isB t [c] || isB t cs) := by simp [isB]
    refine kitAny_cons (kit_ty h1) (fun q => ?_) fun q => ?_
    · rw [h2, e1, q]; rfl
    · rw [e1, q]; rfl
theorem jx_isi1 {f : T → Rs BR} {x : Str} {c : String} {p p2 : Pos} (hg : Gl X "isinstance") (hm : X.mg "isinstance" = none) (ha : JB px W X e f) (hgx : Gl X x) (hmx : X.mg x = none) (hv : bootBuiltins x = some (.type c)) (hc : c ∈ cls6) (hn : x ≠ "__name__") (hdb : (x == ("__debug__" : Str)) = false)
    (he : starEach [e, .Name x p2] X.env = (false, eval e X.env) :: starEach [.Name x p2] X.env) :
    JX px W X (.Call (.Name "isinstance" p) [e, .Name x p2] [] pos) (sIsi [c] f) := by
  refine PE.imp (pe_callB call_isi hg hm boot_isinstance (pa_cons ha (pa_cons (pe_tyn hgx hmx hv hn hdb) pa_nil rfl) he) (by decide) (by decide) he rfl) fun σ H Q ⟨M, F, τ, s, p⟩ => ?_
  refine rdB_bind s p fun b τ1 F1 H1 v g1 s1 rv p1 => ?_
  show rIsi X.K [v, .ty c] H1 Q
  cases e1 : b.at τ1 with
  | none => simp only [e1] at p1; exact p1.elim
  | some d =>
    simp only [e1] at p1
    cases e2 : d.ty with
    | none => simp only [e2] at p1; exact p1.elim
    | some t =>
      simp only [e2] at p1
      exact ⟨v, .ty c, .type t, .type c, _, rfl, .ty c, (rv.now s1 e1).tyX s1.sub e2, kit_ty (kit_all t (ty_mem e2) c hc), p1 F1 H1 .refl s1 _ (.bl _)⟩
theorem jx_isi2 {f : T → Rs BR} {x y : Str} {c c' : String} {p p2 p3 p4 : Pos} {k : Nat} (hg : Gl X "isinstance") (hm : X.mg "isinstance" = none) (ha : JB px W X e f) (hgx : Gl X x) (hmx : X.mg x = none) (hv : bootBuiltins x = some (.type c)) (hc : c ∈ cls6) (hn : x ≠ "__name__") (hdb : (x == ("__debug__" : Str)) = false)
    (hgy : Gl X y) (hmy : X.mg y = none) (hvy : bootBuiltins y = some (.type c')) (hc' : c' ∈ cls6) (hny : y ≠ "__name__") (hdby : (y == ("__debug__" : Str)) = false)
    (he : starEach [e, .Tuple [.Name x p2, .Name y p3] k p4] X.env = (false, eval e X.env) :: starEach [.Tuple [.Name x p2, .Name y p3] k p4] X.env) :
    JX px W X (.Call (.Name "isinstance" p) [e, .Tuple [.Name x p2, .Name y p3] k p4] [] pos) (sIsi [c, c'] f) := by
  refine PE.imp (pe_callB call_isiT hg hm boot_isinstance (pa_cons ha (pa_cons (pe_tup (pa_cons (pe_tyn hgx hmx hv hn hdb) (pa_cons (pe_tyn hgy hmy hvy hny hdby) pa_nil rfl) rfl)) pa_nil rfl) he) (by decide) (by decide) he rfl) fun σ H Q ⟨M, F, τ, s, p⟩ => ?_
  refine rdB_bind s p fun b τ1 F1 H1 v g1 s1 rv p1 => ⟨by show 2 ≤ sizeLine; decide, fun tp htp => ?_⟩
  show rIsiT X.K [v, .ref tp] (upd H1 tp (.tup [.ty c, .ty c'])) Q
  cases e1 : b.at τ1 with
  | none => simp only [e1] at p1; exact p1.elim
  | some d =>
    simp only [e1] at p1
    cases e2 : d.ty with
    | none => simp only [e2] at p1; exact p1.elim
    | some t =>
      simp only [e2] at p1
      have s2 := s1.alloc (o := .tup [.ty c, .ty c']) htp
      exact ⟨v, tp, [.ty c, .ty c'], .type t, [.type c, .type c'], _, rfl, upd_same, .cons (.ty c) (.cons (.ty c') .nil), (rv.now s2 e1).tyX s2.sub e2, kit_any (ty_mem e2) [c, c'] (by simp [hc, hc']), p1 F1 _ (grow_alloc htp) s2 _ (.bl _)⟩

/-! ### methods that change a list -/
def mAppend : OV → List D → Option (D × OV)
  | .l ds, [d] => if ds.length < lim then some (.non, .l (ds ++ [d])) else none
  | _, _ => none
def mPopAt : OV → List D → Option (D × OV)
  | .l ds, [.int i] => if -(2 ^ 63) ≤ i ∧ i < 2 ^ 63 then (match seqIndex? i ds.length with
    | some k => (ds[k]?).map fun d => (d, .l (ds.eraseIdx k))
    | none => none) else none
  | _, _ => none
def mPop : OV → List D → Option (D × OV)
  | .l ds, [] => (ds[ds.length - 1]?).map fun d => (d, .l ds.dropLast)
  | _, _ => none
/-- what a method does to the object at a -/
def MtO (X : Cx) (id : String) (g : OV → List D → Option (D × OV)) : Prop :=
  MtM X id (fun x xs H Q => ∃ F a u o ds d o', x = .ref a ∧ Sub F H ∧ H a = some u ∧ F a = none ∧ OwnO X.K F o u ∧ RepL X.K F xs ds ∧ g o ds = some (d, o') ∧ ∀ v u', OwnO X.K F o' u' → Rep X.K F v d → Q v (upd H a u'))
theorem mo_append : MtO X "list.append" mAppend := by
  intro pins s σ H x xs v us Q I rx rs ⟨F, a, u, o, ds, d, o', ex, sb, hu, hf, ho, rl, hg, q⟩
  cases ho with
  | l r =>
    match ds, rl, hg with
    | [z], .cons rz .nil, hg =>
      obtain ⟨c, e⟩ := ite_some hg
      cases e
      exact mt_append pins s σ H x _ v us Q I rx rs ⟨a, _, _, ex, rfl, hu, by rw [r.length]; exact lim_lt c, q _ _ (.l (r.append (.cons rz .nil))) .non⟩
  | dK _ _ => cases hg
  | dT _ _ => cases hg
theorem mo_popAt : MtO X "list.pop" mPopAt := by
  intro pins s σ H x xs v us Q I rx rs ⟨F, a, u, o, ds, d, o', ex, sb, hu, hf, ho, rl, hg, q⟩
  cases ho with
  | @l es vs r =>
    match ds, rl, hg with
    | [.int i], .cons rz .nil, hg =>
      have hg : (if -(2 ^ 63) ≤ i ∧ i < 2 ^ 63 then (match seqIndex? i es.length with
        | some k => (es[k]?).map fun d => (d, OV.l (es.eraseIdx k))
        | none => none) else none) = some (d, o') := hg
      by_cases c : -(2 ^ 63) ≤ i ∧ i < 2 ^ 63
      · rw [if_pos c] at hg
        cases hk : seqIndex? i es.length with
        | none => rw [hk] at hg; cases hg
        | some k =>
          rw [hk] at hg
          obtain ⟨z, hz, e⟩ := map_some hg
          cases e
          obtain ⟨y, hy, ry⟩ := r.get hz
          cases rz
          exact mt_popAt pins s σ H x _ v us Q I rx rs ⟨a, _, i, k, y, ex, rfl, hu, c.1, c.2, by rw [r.length]; exact hk, hy, q _ _ (.l (r.eraseIdx k)) ry⟩
      · rw [if_neg c] at hg; cases hg
  | dK _ _ => cases hg
  | dT _ _ => cases hg
theorem RepL.dropLast {K : PySem.W.Frag} {F : Hp} {vs : List V} {ds : List D} (h : RepL K F vs ds) : RepL K F vs.dropLast ds.dropLast := by
  rw [List.dropLast_eq_take, List.dropLast_eq_take, h.length]; exact h.take _
theorem mo_pop : MtO X "list.pop" mPop := by
  intro pins s σ H x xs v us Q I rx rs ⟨F, a, u, o, ds, d, o', ex, sb, hu, hf, ho, rl, hg, q⟩
  cases ho with
  | l r =>
    match ds, rl, hg with
    | [], .nil, hg =>
      obtain ⟨z, hz, e⟩ := map_some hg
      cases e
      obtain ⟨y, hy, ry⟩ := r.get hz
      exact mt_pop pins s σ H x _ v us Q I rx rs ⟨a, _, y, ex, rfl, hu, by rw [r.length]; exact hy, q _ _ (.l r.dropLast) ry⟩
  | dK _ _ => cases hg
  | dT _ _ => cases hg
def sMeth (i : Nat) (g : OV → List D → Option (D × OV)) (fa : T → Rs (List D)) : T → Rs PR := fun τ => match τ[i]? with
  | some s0 => (match s0.mut with
    | some (.l _) => (fa τ).bind fun ds τ1 => (match τ1[i]? with
      | some s1 => (match s1.mut with
        | some o => (match g o ds with
          | some (d, o') => .ok (.d d) (τ1.set i (s1.put o'))
          | none => .stuck)
        | none => .stuck)
      | none => .stuck)
    | _ => .stuck)
  | none => .stuck
theorem rd_meth {K : PySem.W.Frag} {i : Nat} {g : OV → List D → Option (D × OV)} {fa : T → Rs (List D)} {σ : St} {H : Hp} {Q : VK} (h : rdX K px W (sMeth i g fa) σ H Q) :
    ∃ a, σ[i]? = some (some (V.ref a)) ∧ (∃ xs, SqL K H a xs) ∧ rdA K px W fa σ H fun xs H2 => ∃ F a' u o ds d o', V.ref a = .ref a' ∧ Sub F H2 ∧ H2 a' = some u ∧ F a' = none ∧ OwnO K F o u ∧ RepL K F xs ds ∧ g o ds = some (d, o') ∧ ∀ v u', OwnO K F o' u' → Rep K F v d → Q v (upd H2 a' u') := by
  obtain ⟨M, F, τ, s, p⟩ := h
  unfold sMeth at p
  cases e0 : τ[i]? with
  | none => rw [e0] at p; exact p.elim
  | some s0 =>
    simp only [e0] at p
    cases m0 : s0.mut with
    | none => rw [m0] at p; exact p.elim
    | some ov =>
      simp only [m0] at p
      cases ov with
      | d _ _ _ => exact p.elim
      | l es =>
        obtain ⟨a, u, h1, h2, h3, h4, h5⟩ := s.own i s0 _ e0 m0
        refine ⟨a, h1, ?_, M, F, τ, s, p.bind.imp fun ds τ1 F1 H1 g1 s1 p1 vs rvs => ?_⟩
        · cases h5 with
          | l r => exact ⟨_, .of h2⟩
        · cases e1 : τ1[i]? with
          | none => simp only [e1] at p1; exact p1.elim
          | some sl =>
            simp only [e1] at p1
            cases m1 : sl.mut with
            | none => simp only [m1] at p1; exact p1.elim
            | some o =>
              simp only [m1] at p1
              cases eg : g o ds with
              | none => simp only [eg] at p1; exact p1.elim
              | some z =>
                obtain ⟨d, o'⟩ := z
                simp only [eg] at p1
                obtain ⟨a1, u1, q1, q2, q3, q4, q5⟩ := s1.own i sl o e1 m1
                rw [h1] at q1
                cases q1
                refine ⟨F1, a, u1, o, ds, d, o', rfl, s1.sub, q2, q3, q5, rvs, eg, fun v u' ho' rv => ?_⟩
                obtain ⟨gw, sw⟩ := s1.write e1 m1 h1 q2 q3 q4 ho'
                exact p1 F1 _ gw sw v rv
variable {x : Str} {xp apos cpos : Pos} {es : List Expr}
theorem jx_meth {i : Nat} {name : Str} {id : String} {g : OV → List D → Option (D × OV)} {fa : T → Rs (List D)} (slot : Slot "list" name id) (hty : typeOf (.builtin id) = pure (.type "method_descriptor")) (hm : MtO X id g) (ho : PE X (.Name x xp) (tVar i)) (ha : JA px W X (e :: es) fa)
    (hbase : attributeBase (.Name x xp) name X.env (eval (.Name x xp) X.env) = eval (.Name x xp) X.env)
    (hfew : ((backTo cpos (starEach (e :: es) X.env)).all (fun x => !x.1) && (backToKw cpos (keywordEach [] X.env)).all (fun x => x.1.isSome) && decide ((e :: es).length + ([] : List Keyword).length + (if ([] : List Keyword).isEmpty then 0 else 1) < 30)) = true)
    (hline : (apos.endLine == cpos.line) = true) (hs : starEach (e :: es) X.env = (false, eval e X.env) :: starEach es X.env) (hplain : (backTo cpos (starEach es X.env)).any (·.1) = false) :
    JX px W X (.Call (.Attribute (.Name x xp) name apos) (e :: es) [] cpos) (sMeth i g fa) :=
  PE.imp (pe_bm PySem.F.plainAttrs_list slot hty hm ho ha hbase hfew hline hs hplain) fun σ H Q h => by
    obtain ⟨a, h1, h2, h3⟩ := rd_meth h
    exact ⟨_, h1, .inl ⟨rfl, h2⟩, h3⟩
theorem jx_meth0 {i : Nat} {name : Str} {id : String} {g : OV → List D → Option (D × OV)} (slot : Slot "list" name id) (hty : typeOf (.builtin id) = pure (.type "method_descriptor")) (hm : MtO X id g) (ho : PE X (.Name x xp) (tVar i))
    (hbase : attributeBase (.Name x xp) name X.env (eval (.Name x xp) X.env) = eval (.Name x xp) X.env) (hline : (apos.endLine == cpos.line) = true) :
    JX px W X (.Call (.Attribute (.Name x xp) name apos) [] [] cpos) (sMeth i g sNil) :=
  PE.imp (pe_bm0 PySem.F.plainAttrs_list slot hty hm ho hbase hline) fun σ H Q h => by
    obtain ⟨a, h1, h2, M, F, τ, s, p⟩ := rd_meth h
    exact ⟨_, h1, .inl ⟨rfl, h2⟩, p F H .refl s [] .nil⟩
/-! ### x[i] = .. -/
def sStore (i : Nat) (fe fi : T → Rs D) : T → SR := fun τ => (fe τ).s fun d τ1 => match τ1[i]? with
  | some s1 => (match s1.mut with
    | some (.l _) => (fi τ1).s fun k τ2 => (match τ2[i]? with
      | some s2 => (match s2.mut, k with
        | some (.l ds), .int j => (match ixN ds.length j with
          | some m => .nx (τ2.set i (s2.put (.l (ds.set m d))))
          | none => .stuck)
        | _, _ => .stuck)
      | none => .stuck)
    | _ => .stuck)
  | none => .stuck
theorem js_store {i : Nat} {ie : Expr} {p2 spos : Pos} {fe fi : T → Rs D} (ho : PE X (.Name x xp) (tVar i)) (hi : JE px W X ie fi) (he : JE px W X e fe)
    (ha : ∀ v, assign (.Subscript (.Name x xp) ie p2) X.env v = (do
      let ov ← holding [v] (eval (.Name x xp) X.env)
      let iv ← holding [v, ov] (eval ie X.env)
      standAt p2
      holding [v, ov, iv] (setItem ov iv v)
      release [v, ov, iv] []))
    (hs : swapsWithSole [.Subscript (.Name x xp) ie p2] e spos.line X.env = pure false) (hw : swappedStores [.Subscript (.Name x xp) ie p2] e X.env = pure none) (h1 : (assignEach [.Subscript (.Name x xp) ie p2] X.env).map (·.2) = [assign (.Subscript (.Name x xp) ie p2) X.env]) :
    JS px W X (.Assign [.Subscript (.Name x xp) ie p2] e spos) (sStore i fe fi) := by
  refine PS.imp (ps_asg he (pg_sub ho hi set_list ha) hs hw h1) fun D σ H ⟨M, F, τ, s, p⟩ => ?_
  refine rdE_s s p fun d τ1 F1 H1 v g1 s1 rv q => ?_
  cases e1 : τ1[i]? with
  | none => simp only [e1] at q; exact q.elim
  | some sl =>
    simp only [e1] at q
    cases m1 : sl.mut with
    | none => simp only [m1] at q; exact q.elim
    | some ov =>
      simp only [m1] at q
      cases ov with
      | d _ _ _ => exact q.elim
      | l ds =>
        obtain ⟨a, u, h1, h2, h3, h4, h5⟩ := s1.own i sl _ e1 m1
        refine ⟨_, h1, rdE_s s1 q fun k τ2 F2 H2 w g2 s2 rk q2 => ?_⟩
        cases e2 : τ2[i]? with
        | none => simp only [e2] at q2; exact q2.elim
        | some sl2 =>
          simp only [e2] at q2
          cases m2 : sl2.mut with
          | none => simp only [m2] at q2; exact q2.elim
          | some ov2 =>
            cases ov2 with
            | d _ _ _ => simp only [m2] at q2; exact q2.elim
            | l es2 =>
              cases k with
              | int j =>
                simp only [m2] at q2
                cases ek : ixN es2.length j with
                | none => simp only [ek] at q2; exact q2.elim
                | some m =>
                  simp only [ek] at q2
                  obtain ⟨a2, u2, r1, r2, r3, r4, r5⟩ := s2.own i sl2 _ e2 m2
                  rw [h1] at r1
                  cases r1
                  cases rk
                  cases r5 with
                  | l rr =>
                    refine ⟨a, _, j, m, rfl, rfl, r2, by rw [rr.length]; exact ek, ?_⟩
                    obtain ⟨gw, sw⟩ := s2.write (o' := .l (es2.set m d)) e2 m2 h1 r2 r3 r4 (.l (rr.set (rv.mono g2.frz) m))
                    exact q2 σ F2 _ gw sw
              | _ => simp only [m2] at q2; exact q2.elim
/-! ### unpacking, returning, nothing -/
def sUnp (g : D → T → Option T) (fe : T → Rs D) : T → SR := fun τ => (fe τ).s fun d τ1 => match g d τ1 with
  | some τ2 => .nx τ2
  | none => .stuck
theorem js_unp {tg : Expr} {gs : List Nat} {g : D → T → Option T} {fe : T → Rs D} {spos : Pos} (hg : JG X tg gs g) (he : JE px W X e fe) (hs : swapsWithSole [tg] e spos.line X.env = pure false) (hw : swappedStores [tg] e X.env = pure none) (h1 : (assignEach [tg] X.env).map (·.2) = [assign tg X.env]) :
    JS px W X (.Assign [tg] e spos) (sUnp g fe) := by
  refine PS.imp (ps_asg he hg hs hw h1) fun D σ H ⟨M, F, τ, s, p⟩ => ?_
  refine rdE_s s p fun d τ1 F1 H1 v g1 s1 rv q => ?_
  cases eg : g d τ1 with
  | none => simp only [eg] at q; exact q.elim
  | some τ2 =>
    simp only [eg] at q
    exact ⟨M, F1, τ1, d, τ2, s1, rv, eg, fun σ' _ s' => q σ' F1 H1 .refl s'⟩
def sRetV (i : Nat) : T → SR := fun τ => match τ[i]? with
  | some (.own o) => .rt (.o o) (τ.set i .no)
  | some (.val d) => .rt (.d d) τ
  | _ => .stuck
theorem js_retV {i : Nat} (h : PE X (.Name x xp) (tVar i)) : JS px W X (.Return (some (.Name x xp)) pos) (sRetV i) :=
  PS.imp (ps_ret h) fun D σ H ⟨M, F, τ, s, p⟩ => by
    unfold sRetV at p
    cases e : τ[i]? with
    | none => rw [e] at p; exact p.elim
    | some sl =>
      rw [e] at p
      cases sl with
      | no => exact p.elim
      | io o => exact p.elim
      | own o =>
        obtain ⟨a, hv, ow⟩ := s.own_at e rfl
        exact ⟨_, hv, p _ σ F H .refl (s.drop i) ow⟩
      | val d =>
        obtain ⟨v, hv, r⟩ := s.val i d e
        exact ⟨_, hv, p v σ F H .refl s r⟩
theorem js_stuck {st : Stmt} : JS px W X st (fun _ => .stuck) := ⟨fun pins s σ H D I ⟨M, F, τ, sr, p⟩ => p.elim⟩
end
end U
end

section
set_option Elab.async false
set_option linter.all false
set_option maxRecDepth 100000
namespace U
open PySem PySem.Spec PyProof.Rows L2

/-! ### a, b = x, y: owned objects stay owned -/
inductive PRL (K : PySem.W.Frag) (F H : Hp) (σ : St) (τ : T) : MS → List V → List PR → Prop
  | nil {M : MS} : PRL K F H σ τ M [] []
  | d {M : MS} {v : V} {vs : List V} {z : D} {rs : List PR} : Rep K F v z → PRL K F H σ τ M vs rs → PRL K F H σ τ M (v :: vs) (.d z :: rs)
  | o {M : MS} {a : Addr} {vs : List V} {z : OV} {rs : List PR} : OwnR K M F H σ τ (.ref a) z → PRL K F H σ τ (M.but a) vs rs → PRL K F H σ τ M (.ref a :: vs) (.o z :: rs)
def JAX (px : PX) (W : WX) (X : Cx) (es : List Expr) (f : T → Rs (List PR)) : Prop := PA X es (fun σ H Q => ∃ M F τ, SRel X.K M F H σ τ ∧ Post X.K px W M F H σ (f τ) fun rs τ' F' H' => ∀ vs, PRL X.K F' H' σ τ' M vs rs → Q vs H')
def sXNil : T → Rs (List PR) := fun τ => .ok [] τ
def sXCons (f : T → Rs PR) (g : T → Rs (List PR)) : T → Rs (List PR) := fun τ => (f τ).bind fun r τ1 => (g τ1).bind fun rs τ2 => .ok (r :: rs) τ2
section
variable {px : PX} {W : WX} {X : Cx} {e : Expr} {es : List Expr}
theorem jax_nil : JAX px W X [] sXNil := PA.imp pa_nil fun σ H Q ⟨M, F, τ, s, p⟩ => p F H .refl s _ .nil
theorem OwnR.later {K : PySem.W.Frag} {M : MS} {F H F1 H1 : Hp} {σ : St} {τ τ1 : T} {a : Addr} {o : OV} (h : OwnR K M F H σ τ (.ref a) o) (g : Grow (M.but a) F H F1 H1) (s : SRel K (M.but a) F1 H1 σ τ1) : OwnR K M F1 H1 σ τ1 (.ref a) o := by
  obtain ⟨b, u, e, h2, h3, h4, h5, h6⟩ := h
  cases e
  have na : ¬ (M.but a).m a := fun z => z.2 rfl
  refine ⟨a, u, rfl, g.keep a u h2 na, g.free a h3 (by rw [h2]; exact fun z => nomatch z) na, h4, h5.mono g.frz, fun i sl e m z => ?_⟩
  obtain ⟨o', e1⟩ := Option.ne_none_iff_exists'.mp m
  obtain ⟨b, w, p1, p2, p3, p4, p5⟩ := s.own i sl o' e e1
  rw [p1] at z
  cases z
  exact na p4
theorem jax_cons {f : T → Rs PR} {g : T → Rs (List PR)} (ha : JX px W X e f) (hr : JAX px W X es g) (hs : starEach (e :: es) X.env = (false, eval e X.env) :: starEach es X.env) : JAX px W X (e :: es) (sXCons f g) :=
  PA.imp (pa_cons ha hr hs) fun σ H Q ⟨M, F, τ, s, p⟩ => rdX_bind s p fun r τ1 F1 H1 v g1 s1 rv p1 => by
    cases r with
    | d z =>
      refine ⟨M, F1, τ1, s1, p1.bind.imp fun rs τ2 F2 H2 g2 s2 p2 vs rvs => p2 F2 H2 .refl s2 _ (.d (Rep.mono g2.frz rv) rvs)⟩
    | o z =>
      obtain ⟨a, u, ev, h2, h3, h4, h5, h6⟩ := id rv
      subst ev
      refine ⟨M.but a, F1, τ1, s1.but h2 h6, Post.less (M := M) (fun b h => h.1) (fun τ' F' H' g s => s.unbut) p1.bind fun rs τ2 F2 H2 gM gN s2 p2 vs rvs => ?_⟩
      exact p2 F2 H2 .refl s2.unbut _ (.o (OwnR.later rv gN s2) rvs)
def putAll : List Nat → List PR → T → Option T
  | [], [], τ => some τ
  | i :: is, r :: rs, τ => match putAll is rs τ with
    | some τ' => if notIo τ' i then some (τ'.set i r.slot) else none
    | none => none
  | _, _, _ => none
def sPar (is : List Nat) (fa : T → Rs (List PR)) : T → SR := fun τ => (fa τ).s fun rs τ1 => match putAll is rs τ1 with
  | some τ2 => .nx τ2
  | none => .stuck
def setAll : List Nat → List V → St → St
  | i :: is, v :: vs, σ => (setAll is vs σ).set i (some v)
  | _, _, σ => σ
theorem OwnR.setv {K : PySem.W.Frag} {M : MS} {F H : Hp} {σ : St} {τ : T} {v : V} {o : OV} {i : Nat} {w : V} {sl : Sl} (h : OwnR K M F H σ τ v o) (hne : sl.mut ≠ none → w ≠ v) : OwnR K M F H (σ.set i (some w)) (τ.set i sl) v o := by
  obtain ⟨a, u, e, h2, h3, h4, h5, h6⟩ := h
  subst e
  refine ⟨a, u, rfl, h2, h3, h4, h5, fun j s e m z => ?_⟩
  rcases get_set e with ⟨rfl, q, hl⟩ | ⟨q, e⟩
  · subst q
    by_cases hs : j < σ.length
    · rw [List.getElem?_set_self hs] at z
      have := Option.some.inj (Option.some.inj z)
      exact hne m this
    · rw [List.getElem?_eq_none (by rw [List.length_set]; omega)] at z; cases z
  · rw [List.getElem?_set_ne (Ne.symm q)] at z
    exact h6 j s e m z
theorem SRel.mono {K : PySem.W.Frag} {M : MS} {F H : Hp} {σ : St} {τ : T} {a : Addr} (s : SRel K (M.but a) F H σ τ) : SRel K M F H σ τ := s.unbut
/-- all stored: slots that hold owned objects hold those of the list, or those of before -/
theorem put_all {K : PySem.W.Frag} {F H : Hp} {σ : St} {τ : T} : ∀ {is : List Nat} {rs : List PR} {M : MS} {vs : List V} {τ2 : T}, SRel K M F H σ τ → PRL K F H σ τ M vs rs → putAll is rs τ = some τ2 → SRel K M F H (setAll is vs σ) τ2 ∧
    (∀ v o, OwnR K M F H σ τ v o → (∀ w z, (w, PR.o z) ∈ vs.zip rs → w ≠ v) → OwnR K M F H (setAll is vs σ) τ2 v o)
  | [], [], M, _, τ2, s, .nil, h => by cases h; exact ⟨s, fun v o ow _ => ow⟩
  | [], _ :: _, M, _, τ2, s, r, h => by cases h
  | _ :: _, [], M, _, τ2, s, r, h => by cases h
  | i :: is, _, M, _, τ2, s, .d (rs := rs) (v := v) (vs := vs) (z := z) rv rr, h => by
    unfold putAll at h
    cases e : putAll is rs τ with
    | none => rw [e] at h; cases h
    | some τ' =>
      simp only [e] at h
      obtain ⟨s1, k1⟩ := put_all s rr e
      by_cases c : notIo τ' i = true
      · rw [if_pos c] at h
        cases h
        refine ⟨s1.setv c rv, fun w o ow hne => ?_⟩
        exact (k1 w o ow fun w' z' hm => hne w' z' (List.mem_cons_of_mem _ hm)).setv (fun m => absurd rfl m)
      · rw [if_neg c] at h; cases h
  | i :: is, _, M, _, τ2, s, .o (rs := rs) (a := a) (vs := vs) (z := z) rv rr, h => by
    unfold putAll at h
    cases e : putAll is rs τ with
    | none => rw [e] at h; cases h
    | some τ' =>
      simp only [e] at h
      obtain ⟨b, u, ev, h2, h3, h4, h5, h6⟩ := id rv
      cases ev
      obtain ⟨s1, k1⟩ := put_all (s.but h2 h6) rr e
      have own1 : OwnR K M F H (setAll is vs σ) τ' (.ref a) z := by
        refine ⟨a, u, rfl, h2, h3, h4, h5, fun j sl ej m zz => ?_⟩
        obtain ⟨o', e1⟩ := Option.ne_none_iff_exists'.mp m
        obtain ⟨b', w, p1, p2, p3, p4, p5⟩ := s1.own j sl o' ej e1
        rw [p1] at zz
        cases zz
        exact p4.2 rfl
      by_cases c : notIo τ' i = true
      · rw [if_pos c] at h
        cases h
        refine ⟨s1.unbut.seto c own1, fun w o ow hne => ?_⟩
        obtain ⟨b', u', ew, q2, q3, q4, q5, q6⟩ := id ow
        subst ew
        have hab : V.ref a ≠ V.ref b' := hne (.ref a) z (List.mem_cons_self ..)
        have ow' : OwnR K (M.but a) F H σ τ (.ref b') o := ⟨b', u', rfl, q2, q3, ⟨q4, fun z => hab (by rw [z])⟩, q5, q6⟩
        have := k1 (.ref b') o ow' fun w' z' hm => hne w' z' (List.mem_cons_of_mem _ hm)
        obtain ⟨b2, u2, e2, r2, r3, r4, r5, r6⟩ := this
        cases e2
        exact OwnR.setv (⟨b', u2, rfl, r2, r3, r4.1, r5, r6⟩ : OwnR K M F H (setAll is vs σ) τ' (.ref b') o) (fun _ => hab)
      · rw [if_neg c] at h; cases h
/-! the statement -/
def tParN (is : List Nat) (ta : TA) : TS := fun D σ H => ta σ H fun vs H1 => vs.length = is.length ∧ D.nx (setAll is vs σ) H1
theorem store_all {pins : List (Addr × Obj)} {H : Hp} {E : Value → Shared → Prop} (hN : X.N.Nodup) : ∀ {rs : List (Nat × Str × V)} {us : List Value} {σ : St} {s : Shared} {R : Unit → Shared → Prop}, (∀ q ∈ rs, X.N[q.1]? = some q.2.1 ∧ X.env.scope.names.lookup q.2.1 = some .local) → Vals (rs.map (·.2.2)) us → Inv X pins σ H s →
    (∀ s', Inv X pins (rs.foldl (fun t q => t.set q.1 (some q.2.2)) σ) H s' → R () s') → wpAny (model X.prog X.w) X.A (assignInOrder (rs.map fun q => fun v => bindName X.env q.2.1 v) us) R E s
  | [], _, σ, s, R, _, .nil, I, h => assignInOrder_nil (h s I)
  | q :: rs, _, σ, s, R, hq, .cons r rr, I, h => by
    obtain ⟨h1, h2⟩ := hq q (List.mem_cons_self ..)
    refine assignInOrder_cons (wpAny_bindName (store_ok I hN h1 (.inl h2) r (fun s2 I2 => ?_) (.inr h2)))
    exact store_all (E := E) (R := R) hN (fun p hp => hq p (List.mem_cons_of_mem _ hp)) rr I2 h
/-- the places, the names, the values -/
def trip : List Nat → List Str → List V → List (Nat × Str × V)
  | i :: is, x :: xs, v :: vs => (i, x, v) :: trip is xs vs
  | _, _, _ => []
theorem trip_mem : ∀ {is : List Nat} {xs : List Str} {vs : List V} {q : Nat × Str × V}, q ∈ trip is xs vs → (q.1, q.2.1) ∈ is.zip xs
  | i :: is, x :: xs, v :: vs, q, h => by
    rcases List.mem_cons.mp (show q ∈ (i, x, v) :: trip is xs vs from h) with e | e
    · rw [e]; exact List.mem_cons_self ..
    · exact List.mem_cons_of_mem _ (trip_mem e)
  | [], _, _, q, h => by simp [trip] at h
  | _ :: _, [], _, q, h => by simp [trip] at h
  | _ :: _, _ :: _, [], q, h => by simp [trip] at h
theorem trip_names : ∀ {is : List Nat} {xs : List Str} {vs : List V}, is.length = xs.length → vs.length = is.length → (trip is xs vs).map (·.2.1) = xs ∧ (trip is xs vs).map (·.2.2) = vs
  | [], [], [], _, _ => ⟨rfl, rfl⟩
  | i :: is, x :: xs, v :: vs, h1, h2 => by
    obtain ⟨a, b⟩ := trip_names (is := is) (xs := xs) (vs := vs) (by simpa using h1) (by simpa using h2)
    exact ⟨by simp [trip, a], by simp [trip, b]⟩
  | [], _ :: _, _, h1, _ => by simp at h1
  | _ :: _, [], _, h1, _ => by simp at h1
  | [], [], _ :: _, _, h2 => by simp at h2
  | _ :: _, _ :: _, [], _, h2 => by simp at h2
theorem trip_set : ∀ {is : List Nat} {xs : List Str} {vs : List V} {σ : St}, is.length = xs.length → vs.length = is.length → (trip is xs vs).foldr (fun q t => t.set q.1 (some q.2.2)) σ = setAll is vs σ
  | [], [], [], σ, _, _ => rfl
  | i :: is, x :: xs, v :: vs, σ, h1, h2 => by
    have := trip_set (is := is) (xs := xs) (vs := vs) (σ := σ) (by simpa using h1) (by simpa using h2)
    show (List.foldr _ σ (trip is xs vs)).set i (some v) = _
    rw [this]; rfl
  | [], _ :: _, _, _, h1, _ => by simp at h1
  | _ :: _, [], _, _, h1, _ => by simp at h1
  | [], [], _ :: _, _, _, h2 => by simp at h2
  | _ :: _, _ :: _, [], _, _, h2 => by simp at h2
theorem ps_parN {is : List Nat} {xs : List Str} {ts vs0 : List Expr} {ta : TA} {pt : Pos} {kt k2 : Nat} {pt2 pos : Pos} (hc : X.calm = true) (hN : X.N.Nodup) (hl : is.length = xs.length) (hi : ∀ q ∈ is.zip xs, X.N[q.1]? = some q.2 ∧ X.env.scope.names.lookup q.2 = some .local)
    (hsm : is.length ≤ 100) (ha : PA X vs0 ta) (hw : swappedStores [.Tuple ts kt pt] (.Tuple vs0 k2 pt2) X.env = pure (some xs)) (hs : swapsWithSole [.Tuple ts kt pt] (.Tuple vs0 k2 pt2) pos.line X.env = pure false) :
    PS X (.Assign [.Tuple ts kt pt] (.Tuple vs0 k2 pt2) pos) (tParN is ta) := by
  refine ⟨fun pins s σ H D I h => ?_⟩
  rw [exec_Assign_arm]
  refine wpAny_bind (wpAny_standAt ?_)
  rw [hs]
  refine wpAny_bind (wpAny_pure ?_)
  rw [if_neg (by decide)]
  refine wpAny_bind (Tuple_ (thn (ha.run _ pins s σ H _ I h) fun us s1 ⟨vs, H1, I1, r1, hv, q1⟩ => ?_))
  have hul : us.length = is.length := by rw [← r1.length]; exact hv
  refine wpAny_newObj_type ?_ (by show us.toArray.size ≤ sizeLine; rw [List.size_toArray, hul]; exact Nat.le_trans hsm (by decide))
  have I2 : Inv X pins σ H1 { s1 with heap := s1.heap.push { cls := .type "tuple", data := .seq us.toArray } } := I1.kept (t' := s1.toks) fun b o e => Heap.get?_push_of_some _ e
  rw [hw]
  refine wpAny_bind (wpAny_pure ?_)
  show wpAny (model X.prog X.w) X.A (do rule "assign.swapped-stores"; let items ← unpackItems (.ref s1.heap.objs.size) xs.length none; assignInOrder (xs.reverse.map fun n => fun v => bindName X.env n v) items.reverse; pure Flow.next) _ _ _
  have hxl : xs.length = us.toArray.size := by rw [List.size_toArray, hul, hl]
  rw [hxl]
  refine wpAny_bind (wpAny_rule (wpAny_bind (unpackItems_tuple (items := us.toArray) (I.ok.hd hc) (IsTup.new s1.heap _) fun h' hx' => ?_)))
  have I3 := I2.kept (h' := h') (t' := s1.toks) fun b o e => hx' b o (Nat.ne_of_lt (Heap.lt_size e)) e
  obtain ⟨n1, n2⟩ := trip_names hl hv
  have e1 : (xs.reverse.map fun n => fun v => bindName X.env n v) = ((trip is xs vs).reverse.map fun q => fun v => bindName X.env q.2.1 v) := by
    have e0 : xs.reverse = (trip is xs vs).reverse.map (·.2.1) := by rw [List.map_reverse, n1]
    rw [e0, List.map_map]; rfl
  refine wpAny_bind ?_
  rw [e1]
  refine store_all (σ := σ) hN (fun q hq => hi _ (trip_mem (List.mem_reverse.mp hq))) ?_ I3 fun s3 I4 => wpAny_pure ?_
  · rw [List.map_reverse, n2]
    exact Vals.reverse (by simpa using r1)
  · rw [List.foldl_reverse, trip_set hl hv] at I4
    exact ⟨_, H1, I4, q1⟩
def parC (N : List Str) (sc : Scope) (is : List Nat) (xs : List Str) : Bool := (is.zip xs).all fun q => decide (N[q.1]? = some q.2) && decide (sc.names.lookup q.2 = some .local)
theorem js_par {is : List Nat} {xs : List Str} {ts vs0 : List Expr} {fa : T → Rs (List PR)} {pt : Pos} {kt k2 : Nat} {pt2 pos : Pos} (hc : X.calm = true) (hN : X.N.Nodup) (hl : is.length = xs.length) (hi : parC X.N X.env.scope is xs = true)
    (hsm : is.length ≤ 100) (ha : JAX px W X vs0 fa) (hw : swappedStores [.Tuple ts kt pt] (.Tuple vs0 k2 pt2) X.env = pure (some xs)) (hs : swapsWithSole [.Tuple ts kt pt] (.Tuple vs0 k2 pt2) pos.line X.env = pure false) :
    JS px W X (.Assign [.Tuple ts kt pt] (.Tuple vs0 k2 pt2) pos) (sPar is fa) := by
  refine PS.imp (ps_parN hc hN hl (fun q hq => by have := List.all_eq_true.mp hi q hq; simpa only [Bool.and_eq_true, decide_eq_true_eq] using this) hsm ha hw hs) fun D σ H ⟨M, F, τ, s, p⟩ => ⟨M, F, τ, s, p.bind.imp fun rs τ1 F1 H1 g1 s1 q vs rvs => ?_⟩
  cases e : putAll is rs τ1 with
  | none => simp only [e] at q; exact q.elim
  | some τ2 =>
    simp only [e] at q
    have len : ∀ {is : List Nat} {rs : List PR} {τ τ2 : T}, putAll is rs τ = some τ2 → rs.length = is.length := fun {is} => by
      induction is with
      | nil => intro rs τ τ2 h; cases rs with
        | nil => rfl
        | cons r rs => cases h
      | cons i is ih => intro rs τ τ2 h; cases rs with
        | nil => cases h
        | cons r rs =>
          unfold putAll at h
          cases e : putAll is rs τ with
          | none => rw [e] at h; cases h
          | some τ' => simp [ih e]
    have lv : ∀ {M : MS} {vs : List V} {rs : List PR}, PRL X.K F1 H1 σ τ1 M vs rs → vs.length = rs.length := fun {M vs rs} h => by
      induction h with
      | nil => rfl
      | d _ _ ih => simp [ih]
      | o _ _ ih => simp [ih]
    refine ⟨by rw [lv rvs, len e], q _ F1 H1 .refl (put_all s1 rvs e).1⟩
end
end U
end

section
set_option Elab.async false
set_option linter.all false
set_option maxRecDepth 100000
namespace U
open PySem PySem.Spec PyProof.Rows L2

/-! ### what a law's text gives -/
structure Blt (mg : Str → Option Value) : Prop where
  len : mg "len" = none
  range : mg "range" = none
  zip : mg "zip" = none
  enumerate : mg "enumerate" = none
  isinstance : mg "isinstance" = none
  int : mg "int" = none
  abs : mg "abs" = none
  list : mg "list" = none
  tuple : mg "tuple" = none
  str : mg "str" = none
  bool : mg "bool" = none
  dict : mg "dict" = none
  set : mg "set" = none
  sorted : mg "sorted" = none
  sum : mg "sum" = none
  min : mg "min" = none
  max : mg "max" = none
  any : mg "any" = none
  all : mg "all" = none
/-- a def as it stands behind the top -/
structure DefOk (K : PySem.W.Frag) (mg : Str → Option Value) (x : Str) (st : Stmt) (ps : List Str) : Prop where
  ex : ∃ f fd, FunD K x x (defArgs st) (defBody st) (defScope st) [] [] f fd ∧ mg x = some (.ref f) ∧ Binds K fd ps []
structure Callee (P : Program) (w : World) (K : PySem.W.Frag) (mg : Str → Option Value) (base : Heap) (px : PX) (x : Str) (n k : Nat) (den : List Sl → DR) : Prop where
  ex : ∃ f fd ps, FnOk P w K mg base (L2.CX P w) k f fd ps (spOf K px n den) ∧ mg x = some (.ref f) ∧ PySem.W.keepIn K (.ref f) = true ∧ Binds K fd ps []
section
variable {P : Program} {w : World} {K : PySem.W.Frag} {mg : Str → Option Value} {base : Heap} {px : PX} {x : Str}
theorem Callee.mono {n k k' : Nat} {den : List Sl → DR} (c : Callee P w K mg base px x n k den) (h : k ≤ k') : Callee P w K mg base px x n k' den := by
  obtain ⟨f, fd, ps, F, r⟩ := c.ex
  exact ⟨f, fd, ps, F.mono h, r⟩
/-- a def's body, read -/
theorem callee {st : Stmt} {N ps : List Str} {k m : Nat} {g : T → SR} (D : DefOk K mg x st ps) (S : FnScope N ps (defScope st)) (hn : N.length = ps.length + m)
    (hb : ∀ (f : Addr) (cdv : Value) (A : Around) (outer : List Env) (s : Shared) (H : Hp) (E : XK), Room k (A.deeper (envOfC x (defScope st) s.heap.objs.size f cdv)) →
      Takes (cxOf (L2.CX P w) P w K mg base N x (defScope st) f cdv A outer s H E) (fun cls d _ H => E cls d H) →
      PassesOwn (model P w) (cxOf (L2.CX P w) P w K mg base N x (defScope st) f cdv A outer s H E).A (cxOf (L2.CX P w) P w K mg base N x (defScope st) f cdv A outer s H E).env (cxOf (L2.CX P w) P w K mg base N x (defScope st) f cdv A outer s H E).xe →
      JSs px (fun cls d _ H => E cls d H) (cxOf (L2.CX P w) P w K mg base N x (defScope st) f cdv A outer s H E) (defBody st) g) :
    Callee P w K mg base px x ps.length (k + 1) (run m g) := by
  obtain ⟨f, fd, F, hm, hb'⟩ := D.ex
  exact ⟨f, fd, ps, fn_run F S hn (hb f), hm, F.kp, hb'⟩
/-- a def that is not run -/
theorem callee0 {st : Stmt} {ps : List Str} {k : Nat} (D : DefOk K mg x st ps) : Callee P w K mg base px x ps.length k (fun _ => .stuck) := by
  obtain ⟨f, fd, F, hm, hb'⟩ := D.ex
  exact ⟨f, fd, ps, ⟨fun vs H Q E ⟨_, _, _, h, _⟩ => h, fun A outer s H args us vs Q E _ _ _ _ ⟨_, _, _, _, _, _, p⟩ => p.elim⟩, hm, F.kp, hb'⟩
end
section
variable {px : PX} {W : WX} {X : Cx} {k : Nat} {x : Str} {p pos : Pos} {e : Expr} {es : List Expr}
theorem jx_own {den : List Sl → DR} {fa : T → Rs (List BR)} {n : Nat} (C : Callee X.prog X.w X.K X.mg X.base px x n k den) (hr : Room k X.A) (tk : Takes X W) (hg : Gl X x) (ha : JAB px W X (e :: es) fa) (hn : ∀ τ bs τ1, fa τ = .ok bs τ1 → bs.length = n) (hdb : (x == ("__debug__" : Str)) = false)
    (he : starEach (e :: es) X.env = (false, eval e X.env) :: starEach es X.env) (hpl : (backTo pos (starEach es X.env)).any (·.1) = false) : JX px W X (.Call (.Name x p) (e :: es) [] pos) (sCall den fa) := by
  obtain ⟨f, fd, ps, F, hm, hk, hb⟩ := C.ex
  exact jx_call F hr hg hm hk hb tk ha hn hdb he hpl
theorem jx_own0 {den : List Sl → DR} (C : Callee X.prog X.w X.K X.mg X.base px x 0 k den) (hr : Room k X.A) (tk : Takes X W) (hg : Gl X x) (hdb : (x == ("__debug__" : Str)) = false) : JX px W X (.Call (.Name x p) [] [] pos) (sCall den sBNil) := by
  obtain ⟨f, fd, ps, F, hm, hk, hb⟩ := C.ex
  exact jx_call0 F hr hg hm hk hb tk hdb
theorem jx_strE {m : Str} {z : List Nat} {j : Nat} (h : m = stO z) : JX px W X (.Constant (.str m) j pos) (sC (.str z)) := by
  subst h; exact jx_str
/-- the number of arguments -/
theorem bl0 : ∀ τ bs τ1, sBNil τ = .ok bs τ1 → bs.length = 0 := fun τ bs τ1 h => by cases h; rfl
theorem blS {f : T → Rs BR} {g : T → Rs (List BR)} {n : Nat} (h : ∀ τ bs τ1, g τ = .ok bs τ1 → bs.length = n) : ∀ τ bs τ1, sBCons f g τ = .ok bs τ1 → bs.length = n + 1 := fun τ bs τ1 e => by
  unfold sBCons at e
  cases ef : f τ with
  | stuck => rw [ef] at e; cases e
  | exc x t => rw [ef] at e; cases e
  | ok b t =>
    rw [ef] at e
    have e : (g t).bind (fun ds τ2 => .ok (b :: ds) τ2) = .ok bs τ1 := e
    cases eg : g t with
    | stuck => rw [eg] at e; cases e
    | exc x t' => rw [eg] at e; cases e
    | ok bs' t' =>
      rw [eg] at e
      cases e
      rw [List.length_cons, h _ _ _ eg]
/-- one argument, made for the call: the callee may own it -/
def sCallF (den : List Sl → DR) (f : T → Rs PR) : T → Rs PR := fun τ => (f τ).bind fun r τ1 => match den [r.slot] with
  | .ok z _ => .ok z τ1
  | .exc y _ => .exc y τ1
  | .stuck => .stuck
theorem SRel.over {K : PySem.W.Frag} {M N : MS} {F H F' H' : Hp} {σ : St} {τ : T} (s : SRel K M F H σ τ) (g : Grow N F H F' H') (hs : Sub F' H') (hN : ∀ (i : Nat) (sl : Sl) (a : Addr), τ[i]? = some sl → sl.mut ≠ none → σ[i]? = some (some (V.ref a)) → ¬ N.m a) : SRel K M F' H' σ τ := by
  refine ⟨s.len, fun a e => s.up a (g.there a e), hs, fun i d e => ?_, fun i sl o e m => ?_, s.apart, s.io⟩
  · obtain ⟨v, h1, h2⟩ := s.val i d e
    exact ⟨v, h1, h2.mono g.frz⟩
  · obtain ⟨a, u, p1, p2, p3, p4, p5⟩ := s.own i sl o e m
    have out := hN i sl a e (by rw [m]; exact fun z => nomatch z) p1
    exact ⟨a, u, p1, g.keep a u p2 out, g.free a p3 (by rw [p2]; exact fun z => nomatch z) out, p4, p5.mono g.frz⟩
theorem rd_callF {K : PySem.W.Frag} {den : List Sl → DR} {f : T → Rs PR} {σ : St} {H : Hp} {Q : VK} (h : rdX K px W (sCallF den f) σ H Q) : rdX K px W f σ H (fun v H1 => spOf K px 1 den [v] H1 Q (WE W σ)) := by
  obtain ⟨M, F, τ, s, p⟩ := h
  refine rdX_bind s p fun r τ1 F1 H1 v g1 s1 rv p1 => ?_
  let N : MS := ⟨fun a => H1 a = none ∨ (v = .ref a ∧ ∃ z, r = .o z), fun _ => 0⟩
  have one : ∀ {i : Nat} {sl : Sl}, [r.slot][i]? = some sl → i = 0 ∧ sl = r.slot := fun {i sl} e => by
    cases i with
    | zero => exact ⟨rfl, by simpa using e.symm⟩
    | succ i => simp at e
  have hN : ∀ (i : Nat) (sl : Sl) (a : Addr), τ1[i]? = some sl → sl.mut ≠ none → σ[i]? = some (some (V.ref a)) → ¬ N.m a := fun i sl a e m hv hm => by
    obtain ⟨o, eo⟩ := Option.ne_none_iff_exists'.mp m
    obtain ⟨b, u, p1, p2, _⟩ := s1.own i sl o e eo
    rw [hv] at p1
    cases p1
    rcases hm with hm | ⟨hm, z, hr⟩
    · rw [p2] at hm; cases hm
    · subst hr
      obtain ⟨b, u', ev, _, _, _, _, h6⟩ := rv
      rw [hm] at ev
      cases ev
      exact h6 i sl e m hv
  have sub : ∀ a, N.m a → M.m a := fun a h => by
    rcases h with h | ⟨h, z, hr⟩
    · exact s1.up a h
    · subst hr
      obtain ⟨b, u', ev, _, _, h4, _⟩ := rv
      rw [h] at ev
      cases ev
      exact h4
  refine ⟨N, F1, [r.slot], rfl, rfl, ⟨Nat.le_refl _, fun a h => .inl h, s1.sub, fun i d e => ?_, fun i sl o e m => ?_, fun i j sl tl b e1 _ e2 _ _ _ => ?_, fun i o e => ?_⟩, ?_⟩
  · obtain ⟨rfl, q⟩ := one e
    cases r with
    | d z => cases q; exact ⟨v, rfl, rv⟩
    | o z => cases q
  · obtain ⟨rfl, q⟩ := one e
    subst q
    cases r with
    | d z => cases m
    | o z =>
      cases m
      obtain ⟨b, u', ev, h2, h3, h4, h5, _⟩ := rv
      subst ev
      exact ⟨b, u', rfl, h2, h3, .inr ⟨rfl, _, rfl⟩, h5⟩
  · rw [(one e1).1, (one e2).1]
  · obtain ⟨_, q⟩ := one e
    cases r <;> cases q
  · have gm : ∀ {F' H' : Hp}, Grow N F1 H1 F' H' → Grow M F1 H1 F' H' := fun g => g.mono sub
    cases ed : den [r.slot] with
    | stuck => simp only [ed] at p1; exact p1.elim
    | exc y fs =>
      simp only [ed] at p1
      exact fun F' H' g' s' dd xd => p1 F' H' (gm g') (s1.over g' s'.sub hN) dd xd
    | ok z fs =>
      simp only [ed] at p1
      cases z with
      | d z => exact fun w F' H' g' s' rw' => p1 F' H' (gm g') (s1.over g' s'.sub hN) w rw'
      | o z =>
        intro w F' H' g' s' rw'
        refine p1 F' H' (gm g') (s1.over g' s'.sub hN) w ?_
        obtain ⟨a, u, e, h2, h3, h4, h5, h6⟩ := rw'
        subst e
        exact ⟨a, u, rfl, h2, h3, sub a h4, h5, fun i sl e m hv => hN i sl a e m hv h4⟩
theorem jx_ownF {den : List Sl → DR} {f : T → Rs PR} (C : Callee X.prog X.w X.K X.mg X.base px x 1 k den) (hr : Room k X.A) (tk : Takes X W) (hg : Gl X x) (ha : JX px W X e f) (hdb : (x == ("__debug__" : Str)) = false)
    (he : starEach [e] X.env = (false, eval e X.env) :: starEach [] X.env) : JX px W X (.Call (.Name x p) [e] [] pos) (sCallF den f) := by
  obtain ⟨g, fd, ps, F, hm, hk, hb⟩ := C.ex
  exact PE.imp (pe_callS F hr hg hm hk hb (fun σ => passAt tk σ) (pa_cons ha pa_nil he) hdb he rfl) fun σ H Q h => rd_callF h
end
end U
end

section
set_option Elab.async false
set_option linter.all false
set_option maxRecDepth 100000
namespace U
open PySem PySem.Spec PyProof.Rows L2
/-! ### a law's end -/
def px0 : PX := ⟨fun _ => 0, fun _ => []⟩
theorem law_sp {K : PySem.W.Frag} {px : PX} {den : List Sl → DR} {H : Hp} {a : Addr} {ns : List Int} {E : XK} (hS : SqL K H a (ns.map V.int)) (h : ∃ fs, den [.val (.scr ns)] = .ok (.d (.bl true)) fs) : spOf K px 1 den [.ref a] H (fun v _ => v = .bl true) E := by
  obtain ⟨fs, h⟩ := h
  refine ⟨⟨fun _ => True, fun _ => 0⟩, H, [.val (.scr ns)], rfl, rfl, ⟨Nat.le_refl _, fun _ _ => trivial, Sub.refl _, fun i d e => ?_, fun i sl o e m => ?_, fun i j sl tl b e1 m1 _ _ _ _ => ?_, fun i o e => ?_⟩, ?_⟩
  · cases i with
    | zero => cases e; exact ⟨_, rfl, .scr hS⟩
    | succ i => simp at e
  · cases i with
    | zero => cases e; cases m
    | succ i => simp at e
  · cases i with
    | zero => cases e1; exact absurd rfl m1
    | succ i => simp at e1
  · cases i with
    | zero => cases e
    | succ i => simp at e
  · rw [h]
    intro v F' H' _ _ r
    cases r
    rfl
theorem walk_U {l : PySem.W.OpenLaw} {n k : Nat} {q : Program} {loose : List Str} {XP : (Str → Option Value) → Heap → Prop} {YP : World → Heap → Prop} {d : DefRec} {x : Str} {px : PX} {den : List Sl → DR} (hn : l.most = some n) (hn2 : n ≤ sizeLine) (hdf : d.params.defaults = []) (hr : Room k callerA)
    (F : ∀ (w : World) (mg : Str → Option Value) (fa : Addr) (h : Heap), YP w h → h.Ns mainGlobals mg → mg d.name = some (.ref fa) → ∃ (K : PySem.W.Frag) (fd : FuncData), K.In h ∧ (∀ (s : Shared) (u : Value), BindsTo s fd ⟨[u], []⟩ [(x, u)]) ∧
      ∀ base : Heap, K.In base → base.Ns mainGlobals mg → FnOk l.prog w K mg base (L2.CX l.prog w) k fa fd [x] (spOf K px 1 den))
    (hden : ∀ ns : List Int, ns.length ≤ n → ∃ fs, den [.val (.scr ns)] = .ok (.d (.bl true)) fs) :
    PySem.W.WalkO q loose XP YP l.row.toRowW d [] (fun f vs => PySem.call f vs) := by
  refine Att.attach_call hn hdf fun w s0 s1 mg mb fa o pm cd doc a vs ns G Y ho hd hcd hmg hobj hints hlen hg => ?_
  obtain ⟨K, fd, KX, hb, hF⟩ := F w mg fa _ Y G.T.g hmg
  exact law_call (CX := L2.CX l.prog w) KX G.T.g G.T.b G.T.builtins G.T.nolimit hg hobj hints (Nat.le_trans hlen hn2) hr hF hb (fun H _ hS => law_sp hS (hden ns hlen)) fun H e s' z => by
    obtain ⟨_, _, _, _, _, _, _, _, _, _, _, _, z⟩ := z
    exact z
end U
end

section
set_option Elab.async false
set_option linter.all false
set_option maxRecDepth 100000
namespace U
open PySem PySem.Spec PyProof.Rows L2
/-! ### how the readings compute -/
def Sl.free : Sl → Bool
  | .io _ => false
  | _ => true
theorem evl :
    (∀ (α β : Type) (a : α) (t : T) (k : α → T → Rs β), (Rs.ok a t).bind k = k a t) ∧
    (∀ (α : Type) (a : α) (t : T) (k : α → T → SR), (Rs.ok a t).s k = k a t) ∧
    (∀ t g, (SR.nx t).then g = g t) ∧ (∀ r t g, (SR.rt r t).then g = .rt r t) ∧
    (∀ f g τ, sSeq f g τ = (f τ).then g) ∧ (∀ τ, sNext τ = .nx τ) ∧
    (∀ d τ, sC d τ = .ok (.d d) τ) ∧
    (∀ i τ, sVar i τ = match τ[i]? with
      | some (.val d) => .ok (.d d) τ
      | some (.own o) => .ok (.d o.toD) (τ.set i (.val o.toD))
      | _ => .stuck) ∧
    (∀ i τ, sRd i τ = match τ[i]? with
      | some (.val d) => .ok (.d d) τ
      | some (.own _) => .ok (.sl i) τ
      | some (.io _) => .ok (.sl i) τ
      | _ => .stuck) ∧
    (∀ f τ, toB f τ = (f τ).bind fun z τ' => .ok (.d z) τ') ∧
    (∀ f τ, frz f τ = (f τ).bind fun r τ' => .ok r.toD τ') ∧ (∀ d, (PR.d d).toD = d) ∧ (∀ d, (PR.o d).toD = d.toD) ∧ (∀ d, (OV.l d).toD = .lst d) ∧
    (∀ z τ, (BR.d z).at τ = some z) ∧ (∀ i τ, (BR.sl i).at τ = match τ[i]? with
      | some s => s.seen
      | none => none) ∧
    (∀ d, (Sl.val d).seen = some d) ∧ (∀ d, (Sl.own d).seen = some d.toD) ∧ (∀ d, (Sl.io d).seen = some d.toD) ∧ (∀ d, (Sl.own d).mut = some d) ∧ (∀ d, (Sl.io d).mut = some d) ∧ (∀ o o', (Sl.io o).put o' = .io o') ∧ (∀ o o', (Sl.own o).put o' = .own o') ∧
    (∀ g fa fb τ, sOp2 g fa fb τ = (fa τ).bind fun x τ1 => (fb τ1).bind fun y τ2 => ap2 g x y τ2) ∧
    (∀ g x y τ, ap2 g x y τ = match x.at τ, y.at τ with
      | some d, some e => (match g d e with | some r => .ok r τ | none => .stuck)
      | _, _ => .stuck) ∧
    (∀ f τ, sTB f τ = (f τ).bind fun r τ1 => match r with
      | .d (.bl b) => .ok b τ1
      | _ => .stuck) ∧
    (∀ f τ, sTru f τ = (f τ).bind fun x τ1 => match x.at τ1 with
      | some d => (match d.truth with | some b => .ok b τ1 | none => .stuck)
      | none => .stuck) := by
  repeat' apply And.intro
  all_goals (intros; rfl)
theorem evl2 :
    (∀ ta tb τ, sAnd ta tb τ = (ta τ).bind fun c τ1 => if c then tb τ1 else .ok false τ1) ∧
    (∀ ta tb τ, sOr ta tb τ = (ta τ).bind fun c τ1 => if c then .ok true τ1 else tb τ1) ∧
    (∀ ta τ, sNot ta τ = (ta τ).bind fun c τ1 => .ok (!c) τ1) ∧
    (∀ f g τ, sAndV f g τ = (f τ).bind fun r τ1 => match r.truth with
      | some true => g τ1
      | some false => .ok r τ1
      | none => .stuck) ∧
    (∀ f g τ, sOrV f g τ = (f τ).bind fun r τ1 => match r.truth with
      | some true => .ok r τ1
      | some false => g τ1
      | none => .stuck) ∧
    (∀ f τ, sNotV f τ = (f τ).bind fun r τ1 => match r.truth with
      | some k => .ok (.d (.bl (!k))) τ1
      | none => .stuck) ∧
    (∀ t f g τ, sIte t f g τ = (t τ).bind fun k τ1 => if k then f τ1 else g τ1) ∧
    (∀ f τ, sNeg f τ = (f τ).bind fun d τ1 => match d with
      | .int i => .ok (.d (.int (-i))) τ1
      | _ => .stuck) ∧
    (∀ τ, sNil τ = .ok [] τ) ∧ (∀ f g τ, sCons f g τ = (f τ).bind fun d τ1 => (g τ1).bind fun ds τ2 => .ok (d :: ds) τ2) ∧
    (∀ g τ, sTup g τ = (g τ).bind fun ds τ1 => if ds.length ≤ lim then .ok (.d (.tup ds)) τ1 else .stuck) ∧
    (∀ g τ, sLst g τ = (g τ).bind fun ds τ1 => if ds.length ≤ lim then .ok (.o (.l ds)) τ1 else .stuck) ∧
    (∀ τ, sNoP τ = .ok none τ) ∧ (∀ f τ, sSmP f τ = (f τ).bind fun d τ1 => match d with
      | .int i => .ok (some i) τ1
      | _ => .stuck) ∧
    (∀ f l u τ, sSl f l u τ = (f τ).bind fun x τ1 => (l τ1).bind fun lo τ2 => (u τ2).bind fun hi τ3 => match x.at τ3 with
      | some d => (match gSl lo hi d with | some r => .ok r τ3 | none => .stuck)
      | none => .stuck) ∧
    (∀ τ, sBNil τ = .ok [] τ) ∧ (∀ f g τ, sBCons f g τ = (f τ).bind fun d τ1 => (g τ1).bind fun ds τ2 => .ok (d :: ds) τ2) ∧
    (∀ g f τ, sCB g f τ = (f τ).bind fun bs τ1 => match atL bs τ1 with
      | some ds => (match g ds with | some r => .ok r τ1 | none => .stuck)
      | none => .stuck) ∧
    (∀ τ, atL [] τ = some []) ∧ (∀ b bs τ, atL (b :: bs) τ = match b.at τ, atL bs τ with
      | some d, some ds => some (d :: ds)
      | _, _ => none) ∧
    (∀ f τ, sDrop f τ = (f τ).s fun _ τ1 => .nx τ1) ∧ (∀ f τ, sRet f τ = (f τ).s fun r τ1 => .rt r τ1) ∧
    (∀ i τ, sRetV i τ = match τ[i]? with
      | some (.own o) => .rt (.o o) (τ.set i .no)
      | some (.val d) => .rt (.d d) τ
      | _ => .stuck) ∧
    (∀ t f g τ, sIfS t f g τ = (t τ).s fun b τ1 => if b then f τ1 else g τ1) ∧
    (∀ i f τ, sSet i f τ = (f τ).s fun r τ1 => putS i r τ1) ∧ (∀ i r τ, putS i r τ = if notIo τ i then .nx (τ.set i r.slot) else .stuck) ∧ (∀ z, (PR.d z).slot = .val z) ∧ (∀ z, (PR.o z).slot = .own z) ∧
    (∀ s τ, notIo (s :: τ) 0 = s.free) ∧ (∀ s τ i, notIo (s :: τ) (i + 1) = notIo τ i) ∧ (∀ d, (Sl.val d).free = true) ∧ (∀ d, (Sl.own d).free = true) ∧ (Sl.no.free = true) := by
  refine ⟨fun _ _ _ => rfl, fun _ _ _ => rfl, fun _ _ => rfl, fun _ _ _ => rfl, fun _ _ _ => rfl, fun _ _ => rfl, fun _ _ _ _ => rfl, fun _ _ => rfl, fun _ => rfl, fun _ _ _ => rfl, fun _ _ => rfl, fun _ _ => rfl, fun _ => rfl, fun _ _ => rfl, fun _ _ _ _ => rfl, fun _ => rfl, fun _ _ _ => rfl, fun _ _ _ => rfl, fun _ => rfl, fun _ _ _ => rfl, fun _ _ => rfl, fun _ _ => rfl, fun _ _ => rfl, fun _ _ _ _ => rfl, fun _ _ _ => rfl, fun _ _ _ => rfl, fun _ => rfl, fun _ => rfl, fun s τ => ?_, fun s τ i => ?_, fun _ => rfl, fun _ => rfl, rfl⟩
  · cases s <;> rfl
  · simp [notIo]
theorem evl3 :
    (∀ it g b τ, sFor it g b τ = (it τ).s fun ds τ1 => forL (sBody g b) ds τ1) ∧
    (∀ g b d τ, sBody g b d τ = match g d τ with
      | some τ' => b τ'
      | none => .stuck) ∧
    (∀ i d τ, gNm i d τ = if notIo τ i then some (τ.set i (.val d)) else none) ∧
    (∀ τ, gN0 [] τ = some τ) ∧ (∀ g h d ds τ, gN1 g h (d :: ds) τ = match g d τ with
      | some τ' => h ds τ'
      | none => none) ∧
    (∀ n h ds τ, gTp n h (.tup ds) τ = if ds.length = n then h ds τ else none) ∧
    (∀ f τ, sItems f τ = (f τ).bind fun d τ1 => match d.items with
      | some ds => .ok ds τ1
      | none => .stuck) ∧
    (∀ ds, (D.tup ds).items = some ds) ∧ (∀ ds, (D.lst ds).items = some ds) ∧
    (∀ f τ, sRng1 f τ = (f τ).bind fun ds τ1 => match ds with
      | [.int j] => if -(2 ^ 62) ≤ j ∧ j < 2 ^ 62 then .ok (rng 0 j.toNat) τ1 else .stuck
      | _ => .stuck) ∧
    (∀ f τ, sEnum f τ = (f τ).bind fun ds τ1 => match ds with
      | [.lst es] => .ok (numb 0 es) τ1
      | [.tup es] => .ok (numb 0 es) τ1
      | _ => .stuck) ∧
    (∀ f τ, sZip f τ = (f τ).bind fun ds τ1 => match ds with
      | [.lst es, .lst fs] => .ok (zipD es fs) τ1
      | [.tup es, .tup fs] => .ok (zipD es fs) τ1
      | _ => .stuck) ∧
    (∀ fi g tt el vs τ, sLc fi g tt el vs τ = (fi τ).bind fun ds τ1 => (compL (turnC g tt el vs) ds (wipeT τ1 vs) []).bind fun acc τ2 => .ok (.o (.l acc)) (restT τ1 vs τ2)) ∧
    (∀ g tt el vs d τ, turnC g tt el vs d τ = match g d τ with
      | none => .stuck
      | some τ1 => match tt τ1 with
        | .ok false τ2 => .ok none (wipeT τ2 vs)
        | .ok true τ2 => (match el τ2 with
          | .ok z τ3 => .ok (some z) (wipeT τ3 vs)
          | _ => .stuck)
        | _ => .stuck) ∧
    (∀ τ, wipeT τ [] = τ) ∧ (∀ τ v vs, wipeT τ (v :: vs) = (wipeT τ vs).set v .no) ∧
    (∀ τ1 τ, restT τ1 [] τ = τ) ∧ (∀ τ1 τ v vs, restT τ1 (v :: vs) τ = match τ1[v]? with
      | some (.val d) => (restT τ1 vs τ).set v (.val d)
      | _ => restT τ1 vs τ) := by
  refine ⟨fun _ _ _ _ => rfl, fun _ _ _ _ => rfl, fun _ _ _ => rfl, fun _ => rfl, fun _ _ _ _ _ => rfl, fun _ _ _ _ => rfl, fun _ _ => rfl, fun _ => rfl, fun _ => rfl, fun _ _ => rfl, fun _ _ => rfl, fun _ _ => rfl, fun _ _ _ _ _ _ => rfl, fun _ _ _ _ _ _ => rfl, fun _ => rfl, fun _ _ _ => rfl, fun _ _ => rfl, fun _ _ _ _ => rfl⟩
theorem evl4 :
    (∀ m f as, run m f as = DR.of (f (as ++ List.replicate m .no)) as) ∧
    (∀ r τ as, DR.of (.rt r τ) as = match finals as τ with | some fs => .ok r fs | none => .stuck) ∧
    (∀ τ as, DR.of (.nx τ) as = match finals as τ with | some fs => .ok (.d .non) fs | none => .stuck) ∧
    (∀ τ, finals [] τ = some []) ∧ (∀ o o' as τ, finals (.io o :: as) (.io o' :: τ) = (finals as τ).map (Sl.io o' :: ·)) ∧ (∀ d s as τ, finals (.val d :: as) (s :: τ) = (finals as τ).map (Sl.no :: ·)) ∧ (∀ d s as τ, finals (.own d :: as) (s :: τ) = (finals as τ).map (Sl.no :: ·)) ∧
    (∀ den fa τ, sCall den fa τ = (fa τ).bind fun bs τ1 => if (slL bs).Nodup then (match avL bs τ1 with
      | some as => (match den as with
        | .ok r fs => (match putL bs as fs τ1 with | some τ2 => .ok r τ2 | none => .stuck)
        | .exc x fs => (match putL bs as fs τ1 with | some τ2 => .exc x τ2 | none => .stuck)
        | .stuck => .stuck)
      | none => .stuck) else .stuck) ∧
    (∀ den f τ, sCallF den f τ = (f τ).bind fun r τ1 => match den [r.slot] with
      | .ok z _ => .ok z τ1
      | .exc y _ => .exc y τ1
      | .stuck => .stuck) ∧
    (slL [] = []) ∧ (∀ z bs, slL (.d z :: bs) = slL bs) ∧ (∀ i bs, slL (.sl i :: bs) = i :: slL bs) ∧
    (∀ τ, avL [] τ = some []) ∧ (∀ z bs τ, avL (.d z :: bs) τ = (avL bs τ).map (Sl.val z :: ·)) ∧
    (∀ i bs τ, avL (.sl i :: bs) τ = match τ[i]? with
      | some (.own o) => (avL bs τ).map (Sl.io o :: ·)
      | some (.io o) => (avL bs τ).map (Sl.io o :: ·)
      | some (.val d) => (avL bs τ).map (Sl.val d :: ·)
      | _ => none) ∧
    (∀ τ, putL [] [] [] τ = some τ) ∧ (∀ i bs o as o' fs τ, putL (.sl i :: bs) (.io o :: as) (.io o' :: fs) τ = putL bs as fs (τ.set i ((τ.getD i .no).put o'))) ∧ (∀ z bs d as f fs τ, putL (.d z :: bs) (.val d :: as) (f :: fs) τ = putL bs as fs τ) ∧
    (∀ i bs d as f fs τ, putL (.sl i :: bs) (.val d :: as) (f :: fs) τ = putL bs as fs τ) ∧
    (∀ i g fa τ, sMeth i g fa τ = match τ[i]? with
      | some s0 => (match s0.mut with
        | some (.l _) => (fa τ).bind fun ds τ1 => (match τ1[i]? with
          | some s1 => (match s1.mut with
            | some o => (match g o ds with
              | some (d, o') => .ok (.d d) (τ1.set i (s1.put o'))
              | none => .stuck)
            | none => .stuck)
          | none => .stuck)
        | _ => .stuck)
      | none => .stuck) ∧
    (∀ i fe fi τ, sStore i fe fi τ = (fe τ).s fun d τ1 => match τ1[i]? with
      | some s1 => (match s1.mut with
        | some (.l _) => (fi τ1).s fun k τ2 => (match τ2[i]? with
          | some s2 => (match s2.mut, k with
            | some (.l ds), .int j => (match ixN ds.length j with
              | some m => .nx (τ2.set i (s2.put (.l (ds.set m d))))
              | none => .stuck)
            | _, _ => .stuck)
          | none => .stuck)
        | _ => .stuck)
      | none => .stuck) ∧
    (∀ g fe τ, sUnp g fe τ = (fe τ).s fun d τ1 => match g d τ1 with
      | some τ2 => .nx τ2
      | none => .stuck) ∧
    (∀ τ, sXNil τ = .ok [] τ) ∧ (∀ f g τ, sXCons f g τ = (f τ).bind fun r τ1 => (g τ1).bind fun rs τ2 => .ok (r :: rs) τ2) ∧
    (∀ is fa τ, sPar is fa τ = (fa τ).s fun rs τ1 => match putAll is rs τ1 with
      | some τ2 => .nx τ2
      | none => .stuck) ∧
    (∀ τ, putAll [] [] τ = some τ) ∧ (∀ i is r rs τ, putAll (i :: is) (r :: rs) τ = match putAll is rs τ with
      | some τ' => if notIo τ' i then some (τ'.set i r.slot) else none
      | none => none) ∧
    (∀ cs f τ, sIsi cs f τ = (f τ).bind fun x τ1 => match x.at τ1 with
      | some d => (match d.ty with
        | some t => .ok (.d (.bl (isB t cs))) τ1
        | none => .stuck)
      | none => .stuck) ∧
    (∀ g g' fa fb fc τ, sChain g g' fa fb fc τ = (fa τ).bind fun x τ1 => (fb τ1).bind fun y τ2 => (ap2 g x y τ2).bind fun r τ3 => match r with
      | .d (.bl true) => (fc τ3).bind fun z τ4 => ap2 g' y z τ4
      | .d (.bl false) => .ok (.d (.bl false)) τ3
      | _ => .stuck) := by
  refine ⟨fun _ _ _ => rfl, fun _ _ _ => rfl, fun _ _ => rfl, fun τ => by cases τ <;> rfl, fun _ _ _ _ => rfl, fun _ _ _ _ => rfl, fun _ _ _ _ => rfl, fun _ _ _ => rfl, fun _ _ _ => rfl, rfl, fun _ _ => rfl, fun _ _ => rfl, fun _ => rfl, fun _ _ _ => rfl, fun _ _ _ => rfl, fun _ => rfl, fun _ _ _ _ _ _ _ => rfl, fun _ _ _ _ _ _ _ => rfl, fun _ _ _ _ _ _ _ => rfl, fun _ _ _ _ => rfl, fun _ _ _ _ => rfl, fun _ _ _ => rfl, fun _ => rfl, fun _ _ _ => rfl, fun _ _ _ => rfl, fun _ => rfl, fun _ _ _ _ _ => rfl, fun _ _ _ => rfl, fun _ _ _ _ _ _ => rfl⟩
/-! primitives on their data -/
theorem prim :
    (∀ i j, gAdd (.int i) (.int j) = some (.d (.int (i + j)))) ∧ (∀ x y, gAdd (.lst x) (.lst y) = if x.length + y.length ≤ lim then some (.o (.l (x ++ y))) else none) ∧ (∀ x y, gAdd (.tup x) (.tup y) = if x.length + y.length ≤ lim then some (.d (.tup (x ++ y))) else none) ∧
    (∀ i j, gMul (.int i) (.int j) = if cMul i j then some (.d (.int (i * j))) else none) ∧ (∀ c f i j, gInt c f (.int i) (.int j) = if c i j then some (.d (.int (f i j))) else none) ∧
    (∀ i j, gCmp .lt (.int i) (.int j) = some (.d (.bl (decide (i < j))))) ∧ (∀ i j, gCmp .gt (.int i) (.int j) = some (.d (.bl (decide (j < i))))) ∧ (∀ i j, gCmp .le (.int i) (.int j) = some (.d (.bl (!decide (j < i))))) ∧ (∀ i j, gCmp .ge (.int i) (.int j) = some (.d (.bl (!decide (i < j))))) ∧
    (∀ n i j, gEq n (.int i) (.int j) = some (.d (.bl (n != (i == j))))) ∧
    (∀ ds i, gIx (.lst ds) (.int i) = (atI ds i).map .d) ∧ (∀ ds i, gIx (.tup ds) (.int i) = (atI ds i).map .d) ∧ (∀ ns i, gIx (.scr ns) (.int i) = (atI ns i).map fun n => .d (.int n)) ∧
    (∀ lo hi ds, gSl lo hi (.lst ds) = some (.o (.l (cutA ds lo hi)))) ∧ (∀ lo hi ds, gSl lo hi (.tup ds) = some (.d (.tup (cutA ds lo hi)))) ∧ (∀ lo hi ns, gSl lo hi (.scr ns) = some (.o (.l ((cutA ns lo hi).map .int)))) ∧
    (∀ g d, g1 g [d] = g d) ∧ (∀ ds, gLen (.lst ds) = some (.d (.int ds.length))) ∧ (∀ ds, gLen (.tup ds) = some (.d (.int ds.length))) ∧ (∀ ns, gLen (.scr ns) = some (.d (.int ns.length))) ∧
    (∀ ds, gTuple (.lst ds) = some (.d (.tup ds))) ∧ (∀ ds, gTuple (.tup ds) = some (.d (.tup ds))) ∧ (∀ ds, gList (.lst ds) = some (.o (.l ds))) ∧ (∀ ds, gList (.tup ds) = some (.o (.l ds))) ∧
    (∀ i, gAbs (.int i) = some (.d (.int (if i < 0 then -i else i)))) ∧ (∀ i, gIntC (.int i) = some (.d (.int i))) ∧ (∀ b, gIntC (.bl b) = some (.d (.int (if b then 1 else 0)))) ∧
    (∀ b, (D.bl b).truth = some b) ∧ (∀ i, (D.int i).truth = some (i != 0)) ∧ (∀ ds, (D.lst ds).truth = some (!ds.isEmpty)) ∧ (∀ ds, (D.tup ds).truth = some (!ds.isEmpty)) ∧ (∀ d, (PR.d d).truth = d.truth) ∧ (∀ o, (PR.o (OV.l o)).truth = some (!o.isEmpty)) ∧
    (∀ ds d, mAppend (.l ds) [d] = if ds.length < lim then some (.non, .l (ds ++ [d])) else none) ∧
    (∀ i j, gMin [.int i, .int j] = some (.d (.int (if j < i then j else i)))) ∧ (∀ i j, gMax [.int i, .int j] = some (.d (.int (if j > i then j else i)))) := by
  repeat' apply And.intro
  all_goals (intros; rfl)
theorem slotsE {α : Type} : (∀ (a : α) l, (a :: l)[0]? = some a) ∧ (∀ (a : α) l (i : Nat), (a :: l)[i + 1]? = l[i]?) ∧ (∀ (a b : α) l, (a :: l).set 0 b = b :: l) ∧ (∀ (a b : α) l (i : Nat), (a :: l).set (i + 1) b = a :: l.set i b) ∧ (∀ (a d : α) l, (a :: l).getD 0 d = a) ∧ (∀ (a d : α) l (i : Nat), (a :: l).getD (i + 1) d = l.getD i d) ∧ (∀ l : List α, [] ++ l = l) ∧ (∀ (a : α) l m, (a :: l) ++ m = a :: (l ++ m)) ∧ (∀ a : α, List.replicate 0 a = []) ∧ (∀ (a : α) n, List.replicate (n + 1) a = a :: List.replicate n a) ∧ (∀ (β : Type) (f : α → β) (a : α), (some a).map f = some (f a)) :=
  ⟨fun _ _ => rfl, fun a l i => by simp, fun _ _ _ => rfl, fun _ _ _ _ => rfl, fun _ _ _ => rfl, fun _ _ _ _ => by simp [List.getD], fun _ => rfl, fun _ _ _ => rfl, fun _ => rfl, fun _ _ => rfl, fun _ _ _ => rfl⟩
end U
end

section
set_option Elab.async false
set_option linter.all false
set_option maxRecDepth 100000
namespace U
open PySem PySem.Spec PyProof.Rows L2
/-! ### loops and comprehensions of a known course -/
theorem compL_pure {f : D → T → Rs (Option D)} {h : D → D} {τ : T} : ∀ (ds acc : List D), (∀ d ∈ ds, f d τ = .ok (some (h d)) τ) → acc.length + ds.length ≤ lim → compL f ds τ acc = .ok (acc ++ ds.map h) τ
  | [], acc, _, _ => by simp [compL]
  | d :: ds, acc, hf, hl => by
    have e := hf d (List.mem_cons_self ..)
    rw [List.length_cons] at hl
    have hlt : acc.length < lim := by omega
    show (match f d τ with
      | .ok (some z) τ1 => if acc.length < lim then compL f ds τ1 (acc ++ [z]) else .stuck
      | .ok none τ1 => compL f ds τ1 acc
      | _ => .stuck) = _
    rw [e]
    show (if acc.length < lim then compL f ds τ (acc ++ [h d]) else .stuck) = _
    rw [if_pos hlt, compL_pure ds (acc ++ [h d]) (fun z hz => hf z (List.mem_cons_of_mem _ hz)) (by rw [List.length_append, List.length_singleton]; omega)]
    simp
/-- with a test -/
theorem compL_filter {f : D → T → Rs (Option D)} {p : D → Bool} {h : D → D} {τ : T} : ∀ (ds acc : List D), (∀ d ∈ ds, f d τ = .ok (if p d then some (h d) else none) τ) → acc.length + ds.length ≤ lim → compL f ds τ acc = .ok (acc ++ (ds.filter p).map h) τ
  | [], acc, _, _ => by simp [compL]
  | d :: ds, acc, hf, hl => by
    have e := hf d (List.mem_cons_self ..)
    rw [List.length_cons] at hl
    have hlt : acc.length < lim := by omega
    have ih := fun a hl => compL_filter (f := f) (p := p) (h := h) (τ := τ) ds a (fun z hz => hf z (List.mem_cons_of_mem _ hz)) hl
    show (match f d τ with
      | .ok (some z) τ1 => if acc.length < lim then compL f ds τ1 (acc ++ [z]) else .stuck
      | .ok none τ1 => compL f ds τ1 acc
      | _ => .stuck) = _
    rw [e]
    cases c : p d with
    | true =>
      show (if acc.length < lim then compL f ds τ (acc ++ [h d]) else .stuck) = _
      rw [if_pos hlt, ih _ (by rw [List.length_append, List.length_singleton]; omega), List.filter_cons_of_pos c]
      simp
    | false =>
      show compL f ds τ acc = _
      rw [ih _ (by omega), List.filter_cons_of_neg (by simp [c])]
theorem forL_inv {body : D → T → SR} {P : T → Prop} : ∀ (ds : List D) (τ : T), (∀ d ∈ ds, ∀ τ, P τ → ∃ τ', body d τ = .nx τ' ∧ P τ') → P τ → ∃ τ', forL body ds τ = .nx τ' ∧ P τ'
  | [], τ, _, h => ⟨τ, rfl, h⟩
  | d :: ds, τ, hb, h => by
    obtain ⟨τ1, e, h1⟩ := hb d (List.mem_cons_self ..) τ h
    obtain ⟨τ2, e2, h2⟩ := forL_inv ds τ1 (fun z hz => hb z (List.mem_cons_of_mem _ hz)) h1
    refine ⟨τ2, ?_, h2⟩
    show (match body d τ with
      | .nx τ' => forL body ds τ'
      | .ct τ' => forL body ds τ'
      | .bk τ' => .nx τ'
      | m => m) = _
    rw [e]; exact e2
theorem forL_step {body : D → T → SR} {d : D} {ds : List D} {τ τ1 : T} (h : body d τ = .nx τ1) : forL body (d :: ds) τ = forL body ds τ1 := by
  show (match body d τ with
    | .nx τ' => forL body ds τ'
    | .ct τ' => forL body ds τ'
    | .bk τ' => .nx τ'
    | m => m) = _
  rw [h]
theorem forL_ret {body : D → T → SR} {d : D} {ds : List D} {τ τ1 : T} {r : PR} (h : body d τ = .rt r τ1) : forL body (d :: ds) τ = .rt r τ1 := by
  show (match body d τ with
    | .nx τ' => forL body ds τ'
    | .ct τ' => forL body ds τ'
    | .bk τ' => .nx τ'
    | m => m) = _
  rw [h]
theorem bls_all : ∀ {ds : List D}, (∀ d ∈ ds, d = .bl true) → blsOf ds = some (ds.map fun _ => true)
  | [], _ => rfl
  | d :: ds, h => by
    have e := h d (List.mem_cons_self ..)
    subst e
    show (blsOf ds).map (true :: ·) = _
    rw [bls_all fun z hz => h z (List.mem_cons_of_mem _ hz)]
    rfl
theorem gAll_true {ds : List D} (h : ∀ d ∈ ds, d = .bl true) : gAll (.lst ds) = some (.d (.bl true)) := by
  show (blsOf ds).map _ = _
  rw [bls_all h]
  simp
theorem bls_map (p : α → Bool) : ∀ xs : List α, blsOf (xs.map fun x => D.bl (p x)) = some (xs.map p)
  | [] => rfl
  | x :: xs => by
    show (blsOf (xs.map fun x => D.bl (p x))).map (p x :: ·) = _
    rw [bls_map p xs]; rfl
theorem gAll_map (p : α → Bool) (xs : List α) : gAll (.lst (xs.map fun x => D.bl (p x))) = some (.d (.bl (xs.all p))) := by
  show (blsOf _).map _ = _
  rw [bls_map p xs]
  simp [List.all_map]
theorem gAny_map (p : α → Bool) (xs : List α) : gAny (.lst (xs.map fun x => D.bl (p x))) = some (.d (.bl (xs.any p))) := by
  show (blsOf _).map _ = _
  rw [bls_map p xs]
  simp [List.any_map]
theorem ints_map (f : α → Int) : ∀ xs : List α, U.intsOf (xs.map fun x => D.int (f x)) = some (xs.map f)
  | [] => rfl
  | x :: xs => by
    show (U.intsOf (xs.map fun x => D.int (f x))).map (f x :: ·) = _
    rw [ints_map f xs]; rfl
theorem gSum_map (f : α → Int) (xs : List α) : gSum2 (.lst (xs.map fun x => D.int (f x))) = some (.d (.int (xs.map f).sum)) := by
  show (U.intsOf _).map _ = _
  rw [ints_map f xs]; rfl
/-! ### data that is compared whole -/
def okS : Nat → D → Bool
  | n, d => match d with
    | .non => true
    | .bl _ => true
    | .int _ => true
    | .str x => x.all (· < 0x110000)
    | .tup xs => (match n with
      | 0 => false
      | n + 1 => decide (xs.length < lim) && xs.all (okS n))
    | .lst xs => (match n with
      | 0 => false
      | n + 1 => decide (xs.length < lim) && xs.all (okS n))
    | _ => false
theorem okS_ok : ∀ (n : Nat) (d : D), okS n d = true → d.ok n = true := by
  intro n
  induction n with
  | zero =>
    intro d h
    cases d <;> first | rfl | (simp [okS] at h; done) | skip
    simpa [okS, D.ok] using h
  | succ n ih =>
    have all : ∀ xs : List D, xs.all (okS n) = true → D.okL xs n = true := fun xs => by
      induction xs with
      | nil => intro _; rfl
      | cons x xs ihx =>
        intro h
        rw [List.all_cons, Bool.and_eq_true] at h
        show (x.ok n && D.okL xs n) = true
        rw [ih x h.1, ihx h.2]; rfl
    intro d h
    cases d with
    | tup xs =>
      unfold okS at h
      simp only [Bool.and_eq_true, decide_eq_true_eq] at h
      show D.okL xs n = true
      exact all xs h.2
    | lst xs =>
      unfold okS at h
      simp only [Bool.and_eq_true, decide_eq_true_eq] at h
      show D.okL xs n = true
      exact all xs h.2
    | str x => simpa [okS, D.ok] using h
    | non => rfl
    | bl b => rfl
    | int i => rfl
    | _ => simp [okS] at h
theorem eqb_self : ∀ (n : Nat) (d : D), okS n d = true → d.eqb d = true := by
  intro n
  induction n with
  | zero =>
    intro d h
    cases d <;> first | (simp [okS] at h; done) | simp [D.eqb]
  | succ n ih =>
    have all : ∀ xs : List D, xs.all (okS n) = true → D.eqbL xs xs = true := fun xs => by
      induction xs with
      | nil => intro _; rfl
      | cons x xs ihx =>
        intro h
        rw [List.all_cons, Bool.and_eq_true] at h
        show (x.eqb x && D.eqbL xs xs) = true
        rw [ih x h.1, ihx h.2]; rfl
    intro d h
    cases d with
    | tup xs =>
      unfold okS at h
      simp only [Bool.and_eq_true, decide_eq_true_eq] at h
      exact all xs h.2
    | lst xs =>
      unfold okS at h
      simp only [Bool.and_eq_true, decide_eq_true_eq] at h
      exact all xs h.2
    | str x => simp [D.eqb]
    | non => rfl
    | bl b => simp [D.eqb]
    | int i => simp [D.eqb]
    | _ => simp [okS] at h
theorem zipD_self : ∀ {xs : List D} {z : D}, z ∈ zipD xs xs → ∃ x ∈ xs, z = .tup [x, x]
  | [], z, h => by simp [zipD] at h
  | x :: xs, z, h => by
    rcases List.mem_cons.mp (show z ∈ .tup [x, x] :: zipD xs xs from h) with e | h
    · exact ⟨x, List.mem_cons_self .., e⟩
    · obtain ⟨y, hy, e⟩ := zipD_self h
      exact ⟨y, List.mem_cons_of_mem _ hy, e⟩
theorem tyE : D.non.ty = some "NoneType" ∧ (∀ b, (D.bl b).ty = some "bool") ∧ (∀ b, (D.int b).ty = some "int") ∧ (∀ b, (D.str b).ty = some "str") ∧ (∀ b, (D.tup b).ty = some "tuple") ∧ (∀ b, (D.lst b).ty = some "list") := ⟨rfl, fun _ => rfl, fun _ => rfl, fun _ => rfl, fun _ => rfl, fun _ => rfl⟩
theorem isE :
    isB "NoneType" ["list", "tuple"] = false ∧ isB "bool" ["list", "tuple"] = false ∧ isB "int" ["list", "tuple"] = false ∧ isB "str" ["list", "tuple"] = false ∧ isB "tuple" ["list", "tuple"] = true ∧ isB "list" ["list", "tuple"] = true ∧
    isB "tuple" ["list"] = false ∧ isB "list" ["list"] = true ∧ isB "tuple" ["tuple"] = true ∧ isB "list" ["tuple"] = false ∧
    isB "NoneType" ["bool", "str"] = false ∧ isB "bool" ["bool", "str"] = true ∧ isB "int" ["bool", "str"] = false ∧ isB "str" ["bool", "str"] = true ∧
    isB "NoneType" ["bool"] = false ∧ isB "bool" ["bool"] = true ∧ isB "int" ["bool"] = false ∧ isB "str" ["bool"] = false ∧ isB "int" ["int"] = true := by decide
theorem eqE : (∀ n a b, gEq n (.bl a) (.bl b) = some (.d (.bl (n != (a == b))))) ∧ (∀ n d, gIs n d .non = some (.d (.bl (n != d.isNon)))) ∧ (D.non.isNon = true) ∧ (∀ b, (D.bl b).isNon = false) ∧ (∀ b, (D.int b).isNon = false) ∧ (∀ b, (D.str b).isNon = false) ∧ (∀ n, gEq n .non .non = some (.d (.bl (n != true)))) :=
  ⟨fun _ _ _ => rfl, fun _ _ => rfl, rfl, fun _ => rfl, fun _ => rfl, fun _ => rfl, fun _ => rfl⟩
end U
end

section
set_option Elab.async false
set_option linter.all false
set_option maxRecDepth 100000
set_option maxHeartbeats 0
namespace U
open PySem PySem.Spec PyProof.Rows L2
section
variable {P : Program} {w : World} {K : PySem.W.Frag} {mg : Str → Option Value} {base : Heap} {px : PX}
def top (i : Nat) : Stmt := PySem.Challenge.pw_upbyany_k83_whole_great_stages_one_behin.main.body.getD i (.Pass ⟨0, 0, 0, 0⟩)
/-! check -/
def N_check : List Str := ["stages", "stage"]
theorem sc_check : FnScope N_check ["stages", "stage"] (defScope (top 3)) := ⟨rfl, rfl, rfl, by decide +kernel, rfl, by decide +kernel, by decide +kernel⟩
def f_check : T → SR :=
  sIfS (sNot (sTB (sChain (gCmp .le) (gCmp .lt) (toB (frz (sC (.int 0)))) (sRd 1) (toB (frz (sCB (g1 gLen) (sBCons (sRd 0) (sBNil)))))))) (fun _ => .stuck) (sNext)
def den_check : List Sl → DR := run 0 f_check
theorem ok_check (B : Blt mg) (D_check : DefOk K mg "check" (top 3) ["stages", "stage"])  : Callee P w K mg base px "check" 2 1 den_check := by
  have scN := sc_check
  refine callee (k := 0) (m := 0) (g := f_check) D_check sc_check rfl fun f cdv A outer s H E hr tk po => ?_
  have hu64 := hr.units
  have hu65 : (A.deeper (envOfC "check" (defScope (top 3)) s.heap.objs.size f cdv)).units + 65 < cLine := by have := hr.un; omega
  have hu1 : (A.deeper (envOfC "check" (defScope (top 3)) s.heap.objs.size f cdv)).units + 1 < cLine := by have := hr.un; omega
  exact jss_one (js_if (jt_not (jt_chain (op_cmpU .le hu64) (op_cmpU .lt hu64) (JE.b (JX.frz (jx_int))) (jb_rd (pv 1)) (JE.b (JX.frz (jx_callB cr_lenU rfl B.len boot_len (jab_cons (jb_rd (pv 0)) (jab_nil) rfl) (by decide) (by decide) rfl rfl))) (by with_unfolding_all rfl))) (jss_one (js_stuck)) (jss_nil))
/-! how_many_units -/
def N_how_many_units : List Str := ["stages", "many", "needed"]
theorem sc_how_many_units : FnScope N_how_many_units ["stages"] (defScope (top 4)) := ⟨rfl, rfl, rfl, by decide +kernel, rfl, by decide +kernel, by decide +kernel⟩
def f_how_many_units : T → SR :=
  sRet (sCB (g1 gSum2) (sBCons (toB (frz (sLc (sItems (frz (sVar 0))) (gTp 2 (gN1 (gNm 1) (gN1 (gNm 2) (gN0)))) (fun τ => .ok true τ) (frz (sVar 1)) [1, 2]))) (sBNil)))
def den_how_many_units : List Sl → DR := run 2 f_how_many_units
theorem ok_how_many_units (B : Blt mg) (D_how_many_units : DefOk K mg "how_many_units" (top 4) ["stages"])  : Callee P w K mg base px "how_many_units" 1 1 den_how_many_units := by
  have scN := sc_how_many_units
  refine callee (k := 0) (m := 2) (g := f_how_many_units) D_how_many_units sc_how_many_units rfl fun f cdv A outer s H E hr tk po => ?_
  have hu64 := hr.units
  have hu65 : (A.deeper (envOfC "how_many_units" (defScope (top 4)) s.heap.objs.size f cdv)).units + 65 < cLine := by have := hr.un; omega
  have hu1 : (A.deeper (envOfC "how_many_units" (defScope (top 4)) s.heap.objs.size f cdv)).units + 1 < cLine := by have := hr.un; omega
  exact jss_one (js_ret (jx_callB (cr_sum2 rfl) rfl B.sum boot_sum (jab_cons (JE.b (JX.frz (jx_lc (own := [("many", 1), ("needed", 2)]) rfl scN.nd (ji_any (JX.frz (jx_var (pv 0)))) (blkOk_by (own := [("many", 1), ("needed", 2)]) (N := N_how_many_units) (by kernel_rfl)) (fun _ _ _ _ _ => jg_tup rfl (jgs_cons (jg_name (pg_name (i := 1) scN.nd rfl (by first | exact Or.inl rfl | exact Or.inr rfl)) (by decide)) (jgs_cons (jg_name (pg_name (i := 2) scN.nd rfl (by first | exact Or.inl rfl | exact Or.inr rfl)) (by decide)) (jgs_nil) rfl) rfl) rfl rfl) (fun _ _ _ _ _ => jts_nil) (fun _ _ _ _ _ => JX.frz (jx_var (pv 1))) (fun _ => rfl)))) (jab_nil) rfl) (by decide) (by decide) rfl rfl))
/-! stage_of -/
def N_stage_of : List Str := ["stages", "unit", "rest", "stage", "many", "needed"]
theorem sc_stage_of : FnScope N_stage_of ["stages", "unit"] (defScope (top 5)) := ⟨rfl, rfl, rfl, by decide +kernel, rfl, by decide +kernel, by decide +kernel⟩
def f_stage_of : T → SR :=
  sSeq (sSet 2 (sVar 1)) (sSeq (sFor (sEnum (sCons (frz (sVar 0)) (sNil))) (gTp 2 (gN1 (gNm 3) (gN1 (gTp 2 (gN1 (gNm 4) (gN1 (gNm 5) (gN0)))) (gN0)))) (sSeq (sIfS (sTB (sChain (gCmp .le) (gCmp .lt) (toB (frz (sC (.int 0)))) (sRd 2) (sRd 4))) (sRetV 3) (sNext)) (sSet 2 (sOp2 (gInt (fun _ _ => true) fun i j => i - j) (sRd 2) (sRd 4))))) (fun _ => .stuck))
def den_stage_of : List Sl → DR := run 4 f_stage_of
theorem ok_stage_of (B : Blt mg) (D_stage_of : DefOk K mg "stage_of" (top 5) ["stages", "unit"])  : Callee P w K mg base px "stage_of" 2 1 den_stage_of := by
  have scN := sc_stage_of
  refine callee (k := 0) (m := 4) (g := f_stage_of) D_stage_of sc_stage_of rfl fun f cdv A outer s H E hr tk po => ?_
  have hu64 := hr.units
  have hu65 : (A.deeper (envOfC "stage_of" (defScope (top 5)) s.heap.objs.size f cdv)).units + 65 < cLine := by have := hr.un; omega
  have hu1 : (A.deeper (envOfC "stage_of" (defScope (top 5)) s.heap.objs.size f cdv)).units + 1 < cLine := by have := hr.un; omega
  exact jss_cons (js_asg (ps_set (i := 2) scN.nd rfl (by first | exact Or.inl rfl | exact Or.inr rfl) (jx_var (pv 1)) (by first | rfl | exact sw_false_name | decide)) (fun _ _ _ h => h))
      (jss_cons (js_for (gs := [3, 4, 5]) po rfl (ji_enum rfl B.enumerate (ja_cons (JX.frz (jx_var (pv 0))) (ja_nil) rfl) rfl) (jg_tup rfl (jgs_cons (jg_name (pg_name (i := 3) scN.nd rfl (by first | exact Or.inl rfl | exact Or.inr rfl)) (by decide)) (jgs_cons (jg_tup rfl (jgs_cons (jg_name (pg_name (i := 4) scN.nd rfl (by first | exact Or.inl rfl | exact Or.inr rfl)) (by decide)) (jgs_cons (jg_name (pg_name (i := 5) scN.nd rfl (by first | exact Or.inl rfl | exact Or.inr rfl)) (by decide)) (jgs_nil) rfl) rfl) rfl rfl) (jgs_nil) rfl) rfl) rfl rfl) (jss_cons (js_if (jt_chain (op_cmpU .le hu64) (op_cmpU .lt hu64) (JE.b (JX.frz (jx_int))) (jb_rd (pv 2)) (jb_rd (pv 4)) (by with_unfolding_all rfl)) (jss_one (js_retV (pv 3))) (jss_nil))
      (jss_one (js_asg (ps_set (i := 2) scN.nd rfl (by first | exact Or.inl rfl | exact Or.inr rfl) (jx_bin op_subI (jb_rd (pv 2)) (jb_rd (pv 4))) (by first | rfl | exact sw_false_name | decide)) (fun _ _ _ h => h)))) (fun _ => rfl))
      (jss_one (js_stuck)))
/-! earliest_place -/
def N_earliest_place : List Str := ["stages", "unit", "many", "needed"]
theorem sc_earliest_place : FnScope N_earliest_place ["stages", "unit"] (defScope (top 6)) := ⟨rfl, rfl, rfl, by decide +kernel, rfl, by decide +kernel, by decide +kernel⟩
def f_earliest_place : T → SR :=
  sRet (sCB (g1 gSum2) (sBCons (toB (frz (sLc (sItems (frz (sSl (sRd 0) (sNoP) (sSmP (frz (sCall den_stage_of (sBCons (toB (frz (sVar 0))) (sBCons (toB (frz (sVar 1))) (sBNil))))))))) (gTp 2 (gN1 (gNm 2) (gN1 (gNm 3) (gN0)))) (fun τ => .ok true τ) (frz (sVar 3)) [2, 3]))) (sBNil)))
def den_earliest_place : List Sl → DR := run 2 f_earliest_place
theorem ok_earliest_place (B : Blt mg) (D_earliest_place : DefOk K mg "earliest_place" (top 6) ["stages", "unit"]) (C_stage_of : Callee P w K mg base px "stage_of" 2 1 den_stage_of) : Callee P w K mg base px "earliest_place" 2 2 den_earliest_place := by
  have scN := sc_earliest_place
  refine callee (k := 1) (m := 2) (g := f_earliest_place) D_earliest_place sc_earliest_place rfl fun f cdv A outer s H E hr tk po => ?_
  have hu64 := hr.units
  have hu65 : (A.deeper (envOfC "earliest_place" (defScope (top 6)) s.heap.objs.size f cdv)).units + 65 < cLine := by have := hr.un; omega
  have hu1 : (A.deeper (envOfC "earliest_place" (defScope (top 6)) s.heap.objs.size f cdv)).units + 1 < cLine := by have := hr.un; omega
  exact jss_one (js_ret (jx_callB (cr_sum2 rfl) rfl B.sum boot_sum (jab_cons (JE.b (JX.frz (jx_lc (own := [("many", 2), ("needed", 3)]) rfl scN.nd (ji_any (JX.frz (jx_sl (jb_rd (pv 0)) (jo_none) (jo_some (JX.frz (jx_own C_stage_of (hr.mono (by decide)) tk rfl (jab_cons (JE.b (JX.frz (jx_var (pv 0)))) (jab_cons (JE.b (JX.frz (jx_var (pv 1)))) (jab_nil) rfl) rfl) (blS (blS bl0)) (by decide) rfl rfl)))))) (blkOk_by (own := [("many", 2), ("needed", 3)]) (N := N_earliest_place) (by kernel_rfl)) (fun _ _ _ _ _ => jg_tup rfl (jgs_cons (jg_name (pg_name (i := 2) scN.nd rfl (by first | exact Or.inl rfl | exact Or.inr rfl)) (by decide)) (jgs_cons (jg_name (pg_name (i := 3) scN.nd rfl (by first | exact Or.inl rfl | exact Or.inr rfl)) (by decide)) (jgs_nil) rfl) rfl) rfl rfl) (fun _ _ _ _ _ => jts_nil) (fun _ _ _ _ _ => JX.frz (jx_var (pv 3))) (fun _ => rfl)))) (jab_nil) rfl) (by decide) (by decide) rfl rfl))
/-! latest_place -/
def N_latest_place : List Str := ["stages", "unit", "stage", "many", "needed", "behind"]
theorem sc_latest_place : FnScope N_latest_place ["stages", "unit"] (defScope (top 7)) := ⟨rfl, rfl, rfl, by decide +kernel, rfl, by decide +kernel, by decide +kernel⟩
def f_latest_place : T → SR :=
  sSeq (sSet 2 (sCall den_stage_of (sBCons (toB (frz (sVar 0))) (sBCons (toB (frz (sVar 1))) (sBNil))))) (sSeq (sUnp (gTp 2 (gN1 (gNm 3) (gN1 (gNm 4) (gN0)))) (frz (sOp2 gIx (sRd 0) (sRd 2)))) (sSeq (sSet 5 (sIte (sTB (sOp2 (gEq false) (sRd 4) (sRd 3))) (sCall den_how_many_units (sBCons (toB (frz (sSl (sRd 0) (sSmP (frz (sOp2 gAdd (sRd 2) (toB (frz (sC (.int 1))))))) (sNoP)))) (sBNil))) (sC (.int 0)))) (sRet (sOp2 (gInt (fun _ _ => true) fun i j => i - j) (toB (frz (sOp2 (gInt (fun _ _ => true) fun i j => i - j) (toB (frz (sCall den_how_many_units (sBCons (toB (frz (sVar 0))) (sBNil))))) (toB (frz (sC (.int 1))))))) (sRd 5)))))
def den_latest_place : List Sl → DR := run 4 f_latest_place
theorem ok_latest_place (B : Blt mg) (D_latest_place : DefOk K mg "latest_place" (top 7) ["stages", "unit"]) (C_stage_of : Callee P w K mg base px "stage_of" 2 1 den_stage_of) (C_how_many_units : Callee P w K mg base px "how_many_units" 1 1 den_how_many_units) : Callee P w K mg base px "latest_place" 2 2 den_latest_place := by
  have scN := sc_latest_place
  refine callee (k := 1) (m := 4) (g := f_latest_place) D_latest_place sc_latest_place rfl fun f cdv A outer s H E hr tk po => ?_
  have hu64 := hr.units
  have hu65 : (A.deeper (envOfC "latest_place" (defScope (top 7)) s.heap.objs.size f cdv)).units + 65 < cLine := by have := hr.un; omega
  have hu1 : (A.deeper (envOfC "latest_place" (defScope (top 7)) s.heap.objs.size f cdv)).units + 1 < cLine := by have := hr.un; omega
  exact jss_cons (js_asg (ps_set (i := 2) scN.nd rfl (by first | exact Or.inl rfl | exact Or.inr rfl) (jx_own C_stage_of (hr.mono (by decide)) tk rfl (jab_cons (JE.b (JX.frz (jx_var (pv 0)))) (jab_cons (JE.b (JX.frz (jx_var (pv 1)))) (jab_nil) rfl) rfl) (blS (blS bl0)) (by decide) rfl rfl) (by first | rfl | exact sw_false_name | decide)) (fun _ _ _ h => h))
      (jss_cons (js_unp (gs := [3, 4]) (jg_tup rfl (jgs_cons (jg_name (pg_name (i := 3) scN.nd rfl (by first | exact Or.inl rfl | exact Or.inr rfl)) (by decide)) (jgs_cons (jg_name (pg_name (i := 4) scN.nd rfl (by first | exact Or.inl rfl | exact Or.inr rfl)) (by decide)) (jgs_nil) rfl) rfl) rfl rfl) (JX.frz (jx_ix (ix_U hu1) (jb_rd (pv 0)) (jb_rd (pv 2)) (fun _ _ => rfl))) rfl rfl rfl)
      (jss_cons (js_asg (ps_set (i := 5) scN.nd rfl (by first | exact Or.inl rfl | exact Or.inr rfl) (jx_ife (jt_cmp (op_eqU hu64) (jb_rd (pv 4)) (jb_rd (pv 3)) rfl) (jx_own C_how_many_units (hr.mono (by decide)) tk rfl (jab_cons (JE.b (JX.frz (jx_sl (jb_rd (pv 0)) (jo_some (JX.frz (jx_bin op_addU (jb_rd (pv 2)) (JE.b (JX.frz (jx_int)))))) (jo_none)))) (jab_nil) rfl) (blS bl0) (by decide) rfl rfl) (jx_int)) (by first | rfl | exact sw_false_name | decide)) (fun _ _ _ h => h))
      (jss_one (js_ret (jx_bin op_subI (JE.b (JX.frz (jx_bin op_subI (JE.b (JX.frz (jx_own C_how_many_units (hr.mono (by decide)) tk rfl (jab_cons (JE.b (JX.frz (jx_var (pv 0)))) (jab_nil) rfl) (blS bl0) (by decide) rfl rfl))) (JE.b (JX.frz (jx_int)))))) (jb_rd (pv 5)))))))
/-! is_ahead -/
def N_is_ahead : List Str := ["stages", "one", "other", "here", "there"]
theorem sc_is_ahead : FnScope N_is_ahead ["stages", "one", "other"] (defScope (top 8)) := ⟨rfl, rfl, rfl, by decide +kernel, rfl, by decide +kernel, by decide +kernel⟩
def f_is_ahead : T → SR :=
  sSeq (sPar [3, 4] (sXCons (sCall den_stage_of (sBCons (toB (frz (sVar 0))) (sBCons (toB (frz (sVar 1))) (sBNil)))) (sXCons (sCall den_stage_of (sBCons (toB (frz (sVar 0))) (sBCons (toB (frz (sVar 2))) (sBNil)))) (sXNil)))) (sRet (sAndV (sOp2 (gCmp .lt) (sRd 3) (sRd 4)) (sOp2 (gEq false) (toB (frz (sOp2 gIx (toB (frz (sOp2 gIx (sRd 0) (sRd 3)))) (toB (frz (sC (.int 0))))))) (toB (frz (sOp2 gIx (toB (frz (sOp2 gIx (sRd 0) (sRd 3)))) (toB (frz (sC (.int 1))))))))))
def den_is_ahead : List Sl → DR := run 2 f_is_ahead
theorem ok_is_ahead (B : Blt mg) (D_is_ahead : DefOk K mg "is_ahead" (top 8) ["stages", "one", "other"]) (C_stage_of : Callee P w K mg base px "stage_of" 2 1 den_stage_of) : Callee P w K mg base px "is_ahead" 3 2 den_is_ahead := by
  have scN := sc_is_ahead
  refine callee (k := 1) (m := 2) (g := f_is_ahead) D_is_ahead sc_is_ahead rfl fun f cdv A outer s H E hr tk po => ?_
  have hu64 := hr.units
  have hu65 : (A.deeper (envOfC "is_ahead" (defScope (top 8)) s.heap.objs.size f cdv)).units + 65 < cLine := by have := hr.un; omega
  have hu1 : (A.deeper (envOfC "is_ahead" (defScope (top 8)) s.heap.objs.size f cdv)).units + 1 < cLine := by have := hr.un; omega
  exact jss_cons (js_par (is := [3, 4]) (xs := ["here", "there"]) rfl scN.nd rfl (by kernel_rfl) (by decide) (jax_cons (jx_own C_stage_of (hr.mono (by decide)) tk rfl (jab_cons (JE.b (JX.frz (jx_var (pv 0)))) (jab_cons (JE.b (JX.frz (jx_var (pv 1)))) (jab_nil) rfl) rfl) (blS (blS bl0)) (by decide) rfl rfl) (jax_cons (jx_own C_stage_of (hr.mono (by decide)) tk rfl (jab_cons (JE.b (JX.frz (jx_var (pv 0)))) (jab_cons (JE.b (JX.frz (jx_var (pv 2)))) (jab_nil) rfl) rfl) (blS (blS bl0)) (by decide) rfl rfl) (jax_nil) rfl) rfl) rfl rfl)
      (jss_one (js_ret (jx_and (jx_cmp (op_cmpU .lt hu64) (jb_rd (pv 3)) (jb_rd (pv 4)) rfl) (jx_one (jx_cmp (op_eqU hu64) (JE.b (JX.frz (jx_ix (ix_U hu1) (JE.b (JX.frz (jx_ix (ix_U hu1) (jb_rd (pv 0)) (jb_rd (pv 3)) (fun _ _ => rfl)))) (JE.b (JX.frz (jx_int))) (fun _ _ => rfl)))) (JE.b (JX.frz (jx_ix (ix_U hu1) (JE.b (JX.frz (jx_ix (ix_U hu1) (jb_rd (pv 0)) (jb_rd (pv 3)) (fun _ _ => rfl)))) (JE.b (JX.frz (jx_int))) (fun _ _ => rfl)))) rfl)))))
/-! ways_to_choose -/
def N_ways_to_choose : List Str := ["many", "few", "found", "number"]
theorem sc_ways_to_choose : FnScope N_ways_to_choose ["many", "few"] (defScope (top 9)) := ⟨rfl, rfl, rfl, by decide +kernel, rfl, by decide +kernel, by decide +kernel⟩
def f_ways_to_choose : T → SR :=
  sSeq (sSet 2 (sC (.int 1))) (sSeq (sFor (sRng1 (sCons (frz (sCB gMin (sBCons (sRd 1) (sBCons (toB (frz (sOp2 (gInt (fun _ _ => true) fun i j => i - j) (sRd 0) (sRd 1)))) (sBNil))))) (sNil))) (gNm 3) (sSet 2 (sOp2 (gInt cDiv fun i j => i / j) (toB (frz (sOp2 gMul (sRd 2) (toB (frz (sOp2 (gInt (fun _ _ => true) fun i j => i - j) (sRd 0) (sRd 3))))))) (toB (frz (sOp2 gAdd (sRd 3) (toB (frz (sC (.int 1)))))))))) (sRetV 2))
def den_ways_to_choose : List Sl → DR := run 2 f_ways_to_choose
theorem ok_ways_to_choose (B : Blt mg) (D_ways_to_choose : DefOk K mg "ways_to_choose" (top 9) ["many", "few"])  : Callee P w K mg base px "ways_to_choose" 2 1 den_ways_to_choose := by
  have scN := sc_ways_to_choose
  refine callee (k := 0) (m := 2) (g := f_ways_to_choose) D_ways_to_choose sc_ways_to_choose rfl fun f cdv A outer s H E hr tk po => ?_
  have hu64 := hr.units
  have hu65 : (A.deeper (envOfC "ways_to_choose" (defScope (top 9)) s.heap.objs.size f cdv)).units + 65 < cLine := by have := hr.un; omega
  have hu1 : (A.deeper (envOfC "ways_to_choose" (defScope (top 9)) s.heap.objs.size f cdv)).units + 1 < cLine := by have := hr.un; omega
  exact jss_cons (js_asg (ps_set (i := 2) scN.nd rfl (by first | exact Or.inl rfl | exact Or.inr rfl) (jx_int) (by first | rfl | exact sw_false_name | decide)) (fun _ _ _ h => h))
      (jss_cons (js_for (gs := [3]) po rfl (ji_range1 rfl B.range (ja_cons (JX.frz (jx_callB (cr_minU rfl) rfl B.min boot_min (jab_cons (jb_rd (pv 1)) (jab_cons (JE.b (JX.frz (jx_bin op_subI (jb_rd (pv 0)) (jb_rd (pv 1))))) (jab_nil) rfl) rfl) (by decide) (by decide) rfl rfl)) (ja_nil) rfl) rfl) (jg_name (pg_name (i := 3) scN.nd rfl (by first | exact Or.inl rfl | exact Or.inr rfl)) (by decide)) (jss_one (js_asg (ps_set (i := 2) scN.nd rfl (by first | exact Or.inl rfl | exact Or.inr rfl) (jx_bin op_divD (JE.b (JX.frz (jx_bin op_mulU (jb_rd (pv 2)) (JE.b (JX.frz (jx_bin op_subI (jb_rd (pv 0)) (jb_rd (pv 3)))))))) (JE.b (JX.frz (jx_bin op_addU (jb_rd (pv 3)) (JE.b (JX.frz (jx_int))))))) (by first | rfl | exact sw_false_name | decide)) (fun _ _ _ h => h))) (fun _ => rfl))
      (jss_one (js_retV (pv 2))))
/-! how_many_paths -/
def N_how_many_paths : List Str := ["stages", "stage", "found", "many", "needed"]
theorem sc_how_many_paths : FnScope N_how_many_paths ["stages", "stage"] (defScope (top 10)) := ⟨rfl, rfl, rfl, by decide +kernel, rfl, by decide +kernel, by decide +kernel⟩
def f_how_many_paths : T → SR :=
  sSeq (sDrop (sCall den_check (sBCons (toB (frz (sVar 0))) (sBCons (toB (frz (sVar 1))) (sBNil))))) (sSeq (sSet 2 (sC (.int 1))) (sSeq (sFor (sItems (frz (sSl (sRd 0) (sNoP) (sSmP (frz (sVar 1)))))) (gTp 2 (gN1 (gNm 3) (gN1 (gNm 4) (gN0)))) (sSet 2 (sOp2 gMul (sRd 2) (toB (frz (sCall den_ways_to_choose (sBCons (toB (frz (sVar 3))) (sBCons (toB (frz (sVar 4))) (sBNil))))))))) (sRetV 2)))
def den_how_many_paths : List Sl → DR := run 3 f_how_many_paths
theorem ok_how_many_paths (B : Blt mg) (D_how_many_paths : DefOk K mg "how_many_paths" (top 10) ["stages", "stage"]) (C_check : Callee P w K mg base px "check" 2 1 den_check) (C_ways_to_choose : Callee P w K mg base px "ways_to_choose" 2 1 den_ways_to_choose) : Callee P w K mg base px "how_many_paths" 2 2 den_how_many_paths := by
  have scN := sc_how_many_paths
  refine callee (k := 1) (m := 3) (g := f_how_many_paths) D_how_many_paths sc_how_many_paths rfl fun f cdv A outer s H E hr tk po => ?_
  have hu64 := hr.units
  have hu65 : (A.deeper (envOfC "how_many_paths" (defScope (top 10)) s.heap.objs.size f cdv)).units + 65 < cLine := by have := hr.un; omega
  have hu1 : (A.deeper (envOfC "how_many_paths" (defScope (top 10)) s.heap.objs.size f cdv)).units + 1 < cLine := by have := hr.un; omega
  exact jss_cons (js_expr (jx_own C_check (hr.mono (by decide)) tk rfl (jab_cons (JE.b (JX.frz (jx_var (pv 0)))) (jab_cons (JE.b (JX.frz (jx_var (pv 1)))) (jab_nil) rfl) rfl) (blS (blS bl0)) (by decide) rfl rfl) rfl)
      (jss_cons (js_asg (ps_set (i := 2) scN.nd rfl (by first | exact Or.inl rfl | exact Or.inr rfl) (jx_int) (by first | rfl | exact sw_false_name | decide)) (fun _ _ _ h => h))
      (jss_cons (js_for (gs := [3, 4]) po rfl (ji_any (JX.frz (jx_sl (jb_rd (pv 0)) (jo_none) (jo_some (JX.frz (jx_var (pv 1))))))) (jg_tup rfl (jgs_cons (jg_name (pg_name (i := 3) scN.nd rfl (by first | exact Or.inl rfl | exact Or.inr rfl)) (by decide)) (jgs_cons (jg_name (pg_name (i := 4) scN.nd rfl (by first | exact Or.inl rfl | exact Or.inr rfl)) (by decide)) (jgs_nil) rfl) rfl) rfl rfl) (jss_one (js_asg (ps_set (i := 2) scN.nd rfl (by first | exact Or.inl rfl | exact Or.inr rfl) (jx_bin op_mulU (jb_rd (pv 2)) (JE.b (JX.frz (jx_own C_ways_to_choose (hr.mono (by decide)) tk rfl (jab_cons (JE.b (JX.frz (jx_var (pv 3)))) (jab_cons (JE.b (JX.frz (jx_var (pv 4)))) (jab_nil) rfl) rfl) (blS (blS bl0)) (by decide) rfl rfl)))) (by first | rfl | exact sw_false_name | decide)) (fun _ _ _ h => h))) (fun _ => rfl))
      (jss_one (js_retV (pv 2)))))
/-! fewest_lost -/
def N_fewest_lost : List Str := ["stages", "stage", "many", "needed"]
theorem sc_fewest_lost : FnScope N_fewest_lost ["stages", "stage"] (defScope (top 11)) := ⟨rfl, rfl, rfl, by decide +kernel, rfl, by decide +kernel, by decide +kernel⟩
def f_fewest_lost : T → SR :=
  sSeq (sDrop (sCall den_check (sBCons (toB (frz (sVar 0))) (sBCons (toB (frz (sVar 1))) (sBNil))))) (sRet (sCB gMin (sBCons (toB (frz (sOp2 gAdd (toB (frz (sLc (sItems (frz (sSl (sRd 0) (sNoP) (sSmP (frz (sVar 1)))))) (gTp 2 (gN1 (gNm 2) (gN1 (gNm 3) (gN0)))) (fun τ => .ok true τ) (frz (sOp2 gAdd (toB (frz (sOp2 (gInt (fun _ _ => true) fun i j => i - j) (sRd 2) (sRd 3)))) (toB (frz (sC (.int 1)))))) [2, 3]))) (toB (frz (sLst (sCons (frz (sOp2 gIx (toB (frz (sOp2 gIx (sRd 0) (sRd 1)))) (toB (frz (sC (.int 0)))))) (sNil)))))))) (sBNil))))
def den_fewest_lost : List Sl → DR := run 2 f_fewest_lost
theorem ok_fewest_lost (B : Blt mg) (D_fewest_lost : DefOk K mg "fewest_lost" (top 11) ["stages", "stage"]) (C_check : Callee P w K mg base px "check" 2 1 den_check) : Callee P w K mg base px "fewest_lost" 2 2 den_fewest_lost := by
  have scN := sc_fewest_lost
  refine callee (k := 1) (m := 2) (g := f_fewest_lost) D_fewest_lost sc_fewest_lost rfl fun f cdv A outer s H E hr tk po => ?_
  have hu64 := hr.units
  have hu65 : (A.deeper (envOfC "fewest_lost" (defScope (top 11)) s.heap.objs.size f cdv)).units + 65 < cLine := by have := hr.un; omega
  have hu1 : (A.deeper (envOfC "fewest_lost" (defScope (top 11)) s.heap.objs.size f cdv)).units + 1 < cLine := by have := hr.un; omega
  exact jss_cons (js_expr (jx_own C_check (hr.mono (by decide)) tk rfl (jab_cons (JE.b (JX.frz (jx_var (pv 0)))) (jab_cons (JE.b (JX.frz (jx_var (pv 1)))) (jab_nil) rfl) rfl) (blS (blS bl0)) (by decide) rfl rfl) rfl)
      (jss_one (js_ret (jx_callB (cr_minU rfl) rfl B.min boot_min (jab_cons (JE.b (JX.frz (jx_bin op_addU (JE.b (JX.frz (jx_lc (own := [("many", 2), ("needed", 3)]) rfl scN.nd (ji_any (JX.frz (jx_sl (jb_rd (pv 0)) (jo_none) (jo_some (JX.frz (jx_var (pv 1))))))) (blkOk_by (own := [("many", 2), ("needed", 3)]) (N := N_fewest_lost) (by kernel_rfl)) (fun _ _ _ _ _ => jg_tup rfl (jgs_cons (jg_name (pg_name (i := 2) scN.nd rfl (by first | exact Or.inl rfl | exact Or.inr rfl)) (by decide)) (jgs_cons (jg_name (pg_name (i := 3) scN.nd rfl (by first | exact Or.inl rfl | exact Or.inr rfl)) (by decide)) (jgs_nil) rfl) rfl) rfl rfl) (fun _ _ _ _ _ => jts_nil) (fun _ _ _ _ _ => JX.frz (jx_bin op_addU (JE.b (JX.frz (jx_bin op_subI (jb_rd (pv 2)) (jb_rd (pv 3))))) (JE.b (JX.frz (jx_int))))) (fun _ => rfl)))) (JE.b (JX.frz (jx_lst (ja_cons (JX.frz (jx_ix (ix_U hu1) (JE.b (JX.frz (jx_ix (ix_U hu1) (jb_rd (pv 0)) (jb_rd (pv 1)) (fun _ _ => rfl)))) (JE.b (JX.frz (jx_int))) (fun _ _ => rfl))) (ja_nil) rfl))))))) (jab_nil) rfl) (by decide) (by decide) rfl rfl)))
/-! is_sure -/
def N_is_sure : List Str := ["stages", "lost", "stage", "rows", "many", "needed", "gone"]
theorem sc_is_sure : FnScope N_is_sure ["stages", "lost", "stage"] (defScope (top 12)) := ⟨rfl, rfl, rfl, by decide +kernel, rfl, by decide +kernel, by decide +kernel⟩
def f_is_sure : T → SR :=
  sSeq (sDrop (sCall den_check (sBCons (toB (frz (sVar 0))) (sBCons (toB (frz (sVar 2))) (sBNil))))) (sSeq (sSet 3 (sLc (sZip (sCons (frz (sSl (sRd 0) (sNoP) (sSmP (frz (sVar 2))))) (sCons (frz (sSl (sRd 1) (sNoP) (sSmP (frz (sVar 2))))) (sNil)))) (gTp 2 (gN1 (gTp 2 (gN1 (gNm 4) (gN1 (gNm 5) (gN0)))) (gN1 (gNm 6) (gN0)))) (fun τ => .ok true τ) (frz (sOp2 (gCmp .ge) (toB (frz (sOp2 (gInt (fun _ _ => true) fun i j => i - j) (sRd 4) (sRd 6)))) (sRd 5))) [4, 5, 6])) (sRet (sAndV (sCB (g1 gAll) (sBCons (sRd 3) (sBNil))) (sOp2 (gCmp .gt) (toB (frz (sOp2 gIx (toB (frz (sOp2 gIx (sRd 0) (sRd 2)))) (toB (frz (sC (.int 0))))))) (toB (frz (sOp2 gIx (sRd 1) (sRd 2))))))))
def den_is_sure : List Sl → DR := run 4 f_is_sure
theorem ok_is_sure (B : Blt mg) (D_is_sure : DefOk K mg "is_sure" (top 12) ["stages", "lost", "stage"]) (C_check : Callee P w K mg base px "check" 2 1 den_check) : Callee P w K mg base px "is_sure" 3 2 den_is_sure := by
  have scN := sc_is_sure
  refine callee (k := 1) (m := 4) (g := f_is_sure) D_is_sure sc_is_sure rfl fun f cdv A outer s H E hr tk po => ?_
  have hu64 := hr.units
  have hu65 : (A.deeper (envOfC "is_sure" (defScope (top 12)) s.heap.objs.size f cdv)).units + 65 < cLine := by have := hr.un; omega
  have hu1 : (A.deeper (envOfC "is_sure" (defScope (top 12)) s.heap.objs.size f cdv)).units + 1 < cLine := by have := hr.un; omega
  exact jss_cons (js_expr (jx_own C_check (hr.mono (by decide)) tk rfl (jab_cons (JE.b (JX.frz (jx_var (pv 0)))) (jab_cons (JE.b (JX.frz (jx_var (pv 2)))) (jab_nil) rfl) rfl) (blS (blS bl0)) (by decide) rfl rfl) rfl)
      (jss_cons (js_setLc (i := 3) (own := [("many", 4), ("needed", 5), ("gone", 6)]) rfl scN.nd rfl rfl (sw_true rfl rfl rfl (by decide +kernel)) (ji_zip rfl B.zip (ja_cons (JX.frz (jx_sl (jb_rd (pv 0)) (jo_none) (jo_some (JX.frz (jx_var (pv 2)))))) (ja_cons (JX.frz (jx_sl (jb_rd (pv 1)) (jo_none) (jo_some (JX.frz (jx_var (pv 2)))))) (ja_nil) rfl) rfl) rfl rfl) (blkOk_by (own := [("many", 4), ("needed", 5), ("gone", 6)]) (N := N_is_sure) (by kernel_rfl)) (fun _ _ _ _ _ => jg_tup rfl (jgs_cons (jg_tup rfl (jgs_cons (jg_name (pg_name (i := 4) scN.nd rfl (by first | exact Or.inl rfl | exact Or.inr rfl)) (by decide)) (jgs_cons (jg_name (pg_name (i := 5) scN.nd rfl (by first | exact Or.inl rfl | exact Or.inr rfl)) (by decide)) (jgs_nil) rfl) rfl) rfl rfl) (jgs_cons (jg_name (pg_name (i := 6) scN.nd rfl (by first | exact Or.inl rfl | exact Or.inr rfl)) (by decide)) (jgs_nil) rfl) rfl) rfl rfl) (fun _ _ _ _ _ => jts_nil) (fun _ _ _ _ _ => JX.frz (jx_cmp (op_cmpU .ge hu64) (JE.b (JX.frz (jx_bin op_subI (jb_rd (pv 4)) (jb_rd (pv 6))))) (jb_rd (pv 5)) rfl)) (fun _ => rfl))
      (jss_one (js_ret (jx_and (jx_callB (cr_allU rfl) rfl B.all boot_all (jab_cons (jb_rd (pv 3)) (jab_nil) rfl) (by decide) (by decide) rfl rfl) (jx_one (jx_cmp (op_cmpU .gt hu64) (JE.b (JX.frz (jx_ix (ix_U hu1) (JE.b (JX.frz (jx_ix (ix_U hu1) (jb_rd (pv 0)) (jb_rd (pv 2)) (fun _ _ => rfl)))) (JE.b (JX.frz (jx_int))) (fun _ _ => rfl)))) (JE.b (JX.frz (jx_ix (ix_U hu1) (jb_rd (pv 1)) (jb_rd (pv 2)) (fun _ _ => rfl)))) rfl))))))
/-! time_up -/
def N_time_up : List Str := ["stages", "durations", "stage"]
theorem sc_time_up : FnScope N_time_up ["stages", "durations", "stage"] (defScope (top 13)) := ⟨rfl, rfl, rfl, by decide +kernel, rfl, by decide +kernel, by decide +kernel⟩
def f_time_up : T → SR :=
  sSeq (sDrop (sCall den_check (sBCons (toB (frz (sVar 0))) (sBCons (toB (frz (sVar 2))) (sBNil))))) (sRet (sCB (g1 gSum2) (sBCons (toB (frz (sSl (sRd 1) (sNoP) (sSmP (frz (sOp2 gAdd (sRd 2) (toB (frz (sC (.int 1)))))))))) (sBNil))))
def den_time_up : List Sl → DR := run 0 f_time_up
theorem ok_time_up (B : Blt mg) (D_time_up : DefOk K mg "time_up" (top 13) ["stages", "durations", "stage"]) (C_check : Callee P w K mg base px "check" 2 1 den_check) : Callee P w K mg base px "time_up" 3 2 den_time_up := by
  have scN := sc_time_up
  refine callee (k := 1) (m := 0) (g := f_time_up) D_time_up sc_time_up rfl fun f cdv A outer s H E hr tk po => ?_
  have hu64 := hr.units
  have hu65 : (A.deeper (envOfC "time_up" (defScope (top 13)) s.heap.objs.size f cdv)).units + 65 < cLine := by have := hr.un; omega
  have hu1 : (A.deeper (envOfC "time_up" (defScope (top 13)) s.heap.objs.size f cdv)).units + 1 < cLine := by have := hr.un; omega
  exact jss_cons (js_expr (jx_own C_check (hr.mono (by decide)) tk rfl (jab_cons (JE.b (JX.frz (jx_var (pv 0)))) (jab_cons (JE.b (JX.frz (jx_var (pv 2)))) (jab_nil) rfl) rfl) (blS (blS bl0)) (by decide) rfl rfl) rfl)
      (jss_one (js_ret (jx_callB (cr_sum2 rfl) rfl B.sum boot_sum (jab_cons (JE.b (JX.frz (jx_sl (jb_rd (pv 1)) (jo_none) (jo_some (JX.frz (jx_bin op_addU (jb_rd (pv 2)) (JE.b (JX.frz (jx_int))))))))) (jab_nil) rfl) (by decide) (by decide) rfl rfl)))
/-! _law_box -/
def N__law_box : List Str := ["_law_script", "_law_k", "_law_cell"]
theorem sc__law_box : FnScope N__law_box ["_law_script", "_law_k"] (defScope (top 15)) := ⟨rfl, rfl, rfl, by decide +kernel, rfl, by decide +kernel, by decide +kernel⟩
def f__law_box : T → SR :=
  sSeq (sSet 2 (sIte (sTB (sOp2 (gCmp .lt) (sRd 1) (toB (frz (sCB (g1 gLen) (sBCons (sRd 0) (sBNil))))))) (sOp2 gIx (sRd 0) (sRd 1)) (sC (.int 0)))) (sRet (sLst (sCons (frz (sOp2 gMul (toB (frz (sCB (g1 gAbs) (sBCons (sRd 2) (sBNil))))) (toB (frz (sCB (g1 gIntC) (sBCons (toB (frz (sOp2 (gCmp .ge) (toB (frz (sCB (g1 gAbs) (sBCons (sRd 2) (sBNil))))) (toB (frz (sOp2 (gInt cPow fun i j => i ^ j.toNat) (toB (frz (sC (.int 10)))) (toB (frz (sC (.int 18)))))))))) (sBNil))))))) (sCons (frz (sOp2 gAdd (toB (frz (sOp2 gAdd (toB (frz (sOp2 (gInt (fun _ j => decide (0 < j)) fun i j => i % j) (toB (frz (sCB (g1 gIntC) (sBCons (sRd 2) (sBNil))))) (toB (frz (sC (.int 2305843009213693951))))))) (toB (frz (sOp2 gMul (toB (frz (sC (.int 39373)))) (sRd 1))))))) (toB (frz (sC (.int 10521083)))))) (sCons (frz (sC (.int 0))) (sNil))))))
def den__law_box : List Sl → DR := run 1 f__law_box
theorem ok__law_box (B : Blt mg) (D__law_box : DefOk K mg "_law_box" (top 15) ["_law_script", "_law_k"])  : Callee P w K mg base px "_law_box" 2 1 den__law_box := by
  have scN := sc__law_box
  refine callee (k := 0) (m := 1) (g := f__law_box) D__law_box sc__law_box rfl fun f cdv A outer s H E hr tk po => ?_
  have hu64 := hr.units
  have hu65 : (A.deeper (envOfC "_law_box" (defScope (top 15)) s.heap.objs.size f cdv)).units + 65 < cLine := by have := hr.un; omega
  have hu1 : (A.deeper (envOfC "_law_box" (defScope (top 15)) s.heap.objs.size f cdv)).units + 1 < cLine := by have := hr.un; omega
  exact jss_cons (js_asg (ps_set (i := 2) scN.nd rfl (by first | exact Or.inl rfl | exact Or.inr rfl) (jx_ife (jt_cmp (op_cmpU .lt hu64) (jb_rd (pv 1)) (JE.b (JX.frz (jx_callB cr_lenU rfl B.len boot_len (jab_cons (jb_rd (pv 0)) (jab_nil) rfl) (by decide) (by decide) rfl rfl))) rfl) (jx_ix (ix_U hu1) (jb_rd (pv 0)) (jb_rd (pv 1)) (fun _ _ => rfl)) (jx_int)) (by first | rfl | exact sw_false_name | decide)) (fun _ _ _ h => h))
      (jss_one (js_ret (jx_lst (ja_cons (JX.frz (jx_bin op_mulU (JE.b (JX.frz (jx_callB cr_absU rfl B.abs boot_abs (jab_cons (jb_rd (pv 2)) (jab_nil) rfl) (by decide) (by decide) rfl rfl))) (JE.b (JX.frz (jx_callTy cr_intU rfl B.int boot_int (jab_cons (JE.b (JX.frz (jx_cmp (op_cmpU .ge hu64) (JE.b (JX.frz (jx_callB cr_absU rfl B.abs boot_abs (jab_cons (jb_rd (pv 2)) (jab_nil) rfl) (by decide) (by decide) rfl rfl))) (JE.b (JX.frz (jx_bin op_powD (JE.b (JX.frz (jx_int))) (JE.b (JX.frz (jx_int)))))) rfl))) (jab_nil) rfl) (by decide) (by decide) rfl rfl))))) (ja_cons (JX.frz (jx_bin op_addU (JE.b (JX.frz (jx_bin op_addU (JE.b (JX.frz (jx_bin op_modD (JE.b (JX.frz (jx_callTy cr_intU rfl B.int boot_int (jab_cons (jb_rd (pv 2)) (jab_nil) rfl) (by decide) (by decide) rfl rfl))) (JE.b (JX.frz (jx_int)))))) (JE.b (JX.frz (jx_bin op_mulU (JE.b (JX.frz (jx_int))) (jb_rd (pv 1)))))))) (JE.b (JX.frz (jx_int))))) (ja_cons (JX.frz (jx_int)) (ja_nil) rfl) rfl) rfl))))
/-! _law_take -/
def N__law_take : List Str := ["_law_urn", "_law_low_so", "_law_drawn", "_law_once", "_law_far", "_law_twice"]
theorem sc__law_take : FnScope N__law_take ["_law_urn", "_law_low_so"] (defScope (top 16)) := ⟨rfl, rfl, rfl, by decide +kernel, rfl, by decide +kernel, by decide +kernel⟩
def f__law_take : T → SR :=
  sSeq (sIfS (sTB (sOp2 (gCmp .gt) (toB (frz (sOp2 gIx (sRd 0) (toB (frz (sC (.int 0))))))) (toB (frz (sC (.int 0)))))) (sSeq (sSet 2 (sOp2 (gInt (fun _ j => decide (0 < j)) fun i j => i % j) (toB (frz (sCB (g1 gIntC) (sBCons (toB (frz (sOp2 gIx (sRd 0) (toB (frz (sC (.int 0))))))) (sBNil))))) (sRd 1))) (sSeq (sStore 0 (frz (sOp2 (gInt cDiv fun i j => i / j) (toB (frz (sOp2 gIx (sRd 0) (toB (frz (sC (.int 0))))))) (sRd 1))) (frz (sC (.int 0)))) (sRetV 2))) (sNext)) (sSeq (sStore 0 (frz (sOp2 gAdd (toB (frz (sOp2 gIx (sRd 0) (toB (frz (sC (.int 2))))))) (toB (frz (sC (.int 1)))))) (frz (sC (.int 2)))) (sSeq (sSet 3 (sOp2 (gInt (fun _ j => decide (0 < j)) fun i j => i % j) (toB (frz (sCB (g1 gIntC) (sBCons (toB (frz (sOp2 gMul (toB (frz (sOp2 gAdd (toB (frz (sOp2 gIx (sRd 0) (toB (frz (sC (.int 1))))))) (toB (frz (sOp2 gMul (toB (frz (sC (.int 48271)))) (toB (frz (sOp2 gIx (sRd 0) (toB (frz (sC (.int 2))))))))))))) (toB (frz (sOp2 gAdd (toB (frz (sC (.int 39373)))) (toB (frz (sOp2 gIx (sRd 0) (toB (frz (sC (.int 2))))))))))))) (sBNil))))) (toB (frz (sC (.int 2147483647)))))) (sSeq (sSet 4 (sOp2 gAdd (toB (frz (sOp2 (gInt (fun _ j => decide (0 < j)) fun i j => i % j) (toB (frz (sCB (g1 gIntC) (sBCons (sRd 3) (sBNil))))) (toB (frz (sC (.int 40009))))))) (toB (frz (sC (.int 7)))))) (sSeq (sSet 5 (sOp2 (gInt (fun _ j => decide (0 < j)) fun i j => i % j) (toB (frz (sCB (g1 gIntC) (sBCons (toB (frz (sOp2 gMul (toB (frz (sOp2 gAdd (toB (frz (sOp2 gAdd (sRd 3) (toB (frz (sOp2 gIx (sRd 0) (toB (frz (sC (.int 2)))))))))) (toB (frz (sOp2 (gInt cDiv fun i j => i / j) (toB (frz (sOp2 gIx (sRd 0) (toB (frz (sC (.int 1))))))) (toB (frz (sC (.int 1000003)))))))))) (sRd 4)))) (sBNil))))) (toB (frz (sC (.int 2147483629)))))) (sRet (sOp2 (gInt (fun _ j => decide (0 < j)) fun i j => i % j) (toB (frz (sCB (g1 gIntC) (sBCons (toB (frz (sOp2 (gInt cDiv fun i j => i / j) (toB (frz (sOp2 (gInt (fun _ j => decide (0 < j)) fun i j => i % j) (toB (frz (sCB (g1 gIntC) (sBCons (toB (frz (sOp2 gAdd (toB (frz (sOp2 gMul (sRd 5) (toB (frz (sC (.int 48271))))))) (sRd 3)))) (sBNil))))) (toB (frz (sC (.int 2147483587))))))) (toB (frz (sC (.int 64))))))) (sBNil))))) (sRd 1)))))))
def den__law_take : List Sl → DR := run 4 f__law_take
theorem ok__law_take (B : Blt mg) (D__law_take : DefOk K mg "_law_take" (top 16) ["_law_urn", "_law_low_so"])  : Callee P w K mg base px "_law_take" 2 1 den__law_take := by
  have scN := sc__law_take
  refine callee (k := 0) (m := 4) (g := f__law_take) D__law_take sc__law_take rfl fun f cdv A outer s H E hr tk po => ?_
  have hu64 := hr.units
  have hu65 : (A.deeper (envOfC "_law_take" (defScope (top 16)) s.heap.objs.size f cdv)).units + 65 < cLine := by have := hr.un; omega
  have hu1 : (A.deeper (envOfC "_law_take" (defScope (top 16)) s.heap.objs.size f cdv)).units + 1 < cLine := by have := hr.un; omega
  exact jss_cons (js_if (jt_cmp (op_cmpU .gt hu64) (JE.b (JX.frz (jx_ix (ix_U hu1) (jb_rd (pv 0)) (JE.b (JX.frz (jx_int))) (fun _ _ => rfl)))) (JE.b (JX.frz (jx_int))) rfl) (jss_cons (js_asg (ps_set (i := 2) scN.nd rfl (by first | exact Or.inl rfl | exact Or.inr rfl) (jx_bin op_modD (JE.b (JX.frz (jx_callTy cr_intU rfl B.int boot_int (jab_cons (JE.b (JX.frz (jx_ix (ix_U hu1) (jb_rd (pv 0)) (JE.b (JX.frz (jx_int))) (fun _ _ => rfl)))) (jab_nil) rfl) (by decide) (by decide) rfl rfl))) (jb_rd (pv 1))) (by first | rfl | exact sw_false_name | decide)) (fun _ _ _ h => h))
      (jss_cons (js_store (pv 0) (JX.frz (jx_int)) (JX.frz (jx_bin op_divD (JE.b (JX.frz (jx_ix (ix_U hu1) (jb_rd (pv 0)) (JE.b (JX.frz (jx_int))) (fun _ _ => rfl)))) (jb_rd (pv 1)))) (fun _ => rfl) rfl rfl rfl)
      (jss_one (js_retV (pv 2))))) (jss_nil))
      (jss_cons (js_store (pv 0) (JX.frz (jx_int)) (JX.frz (jx_bin op_addU (JE.b (JX.frz (jx_ix (ix_U hu1) (jb_rd (pv 0)) (JE.b (JX.frz (jx_int))) (fun _ _ => rfl)))) (JE.b (JX.frz (jx_int))))) (fun _ => rfl) rfl rfl rfl)
      (jss_cons (js_asg (ps_set (i := 3) scN.nd rfl (by first | exact Or.inl rfl | exact Or.inr rfl) (jx_bin op_modD (JE.b (JX.frz (jx_callTy cr_intU rfl B.int boot_int (jab_cons (JE.b (JX.frz (jx_bin op_mulU (JE.b (JX.frz (jx_bin op_addU (JE.b (JX.frz (jx_ix (ix_U hu1) (jb_rd (pv 0)) (JE.b (JX.frz (jx_int))) (fun _ _ => rfl)))) (JE.b (JX.frz (jx_bin op_mulU (JE.b (JX.frz (jx_int))) (JE.b (JX.frz (jx_ix (ix_U hu1) (jb_rd (pv 0)) (JE.b (JX.frz (jx_int))) (fun _ _ => rfl)))))))))) (JE.b (JX.frz (jx_bin op_addU (JE.b (JX.frz (jx_int))) (JE.b (JX.frz (jx_ix (ix_U hu1) (jb_rd (pv 0)) (JE.b (JX.frz (jx_int))) (fun _ _ => rfl)))))))))) (jab_nil) rfl) (by decide) (by decide) rfl rfl))) (JE.b (JX.frz (jx_int)))) (by first | rfl | exact sw_false_name | decide)) (fun _ _ _ h => h))
      (jss_cons (js_asg (ps_set (i := 4) scN.nd rfl (by first | exact Or.inl rfl | exact Or.inr rfl) (jx_bin op_addU (JE.b (JX.frz (jx_bin op_modD (JE.b (JX.frz (jx_callTy cr_intU rfl B.int boot_int (jab_cons (jb_rd (pv 3)) (jab_nil) rfl) (by decide) (by decide) rfl rfl))) (JE.b (JX.frz (jx_int)))))) (JE.b (JX.frz (jx_int)))) (by first | rfl | exact sw_false_name | decide)) (fun _ _ _ h => h))
      (jss_cons (js_asg (ps_set (i := 5) scN.nd rfl (by first | exact Or.inl rfl | exact Or.inr rfl) (jx_bin op_modD (JE.b (JX.frz (jx_callTy cr_intU rfl B.int boot_int (jab_cons (JE.b (JX.frz (jx_bin op_mulU (JE.b (JX.frz (jx_bin op_addU (JE.b (JX.frz (jx_bin op_addU (jb_rd (pv 3)) (JE.b (JX.frz (jx_ix (ix_U hu1) (jb_rd (pv 0)) (JE.b (JX.frz (jx_int))) (fun _ _ => rfl))))))) (JE.b (JX.frz (jx_bin op_divD (JE.b (JX.frz (jx_ix (ix_U hu1) (jb_rd (pv 0)) (JE.b (JX.frz (jx_int))) (fun _ _ => rfl)))) (JE.b (JX.frz (jx_int))))))))) (jb_rd (pv 4))))) (jab_nil) rfl) (by decide) (by decide) rfl rfl))) (JE.b (JX.frz (jx_int)))) (by first | rfl | exact sw_false_name | decide)) (fun _ _ _ h => h))
      (jss_one (js_ret (jx_bin op_modD (JE.b (JX.frz (jx_callTy cr_intU rfl B.int boot_int (jab_cons (JE.b (JX.frz (jx_bin op_divD (JE.b (JX.frz (jx_bin op_modD (JE.b (JX.frz (jx_callTy cr_intU rfl B.int boot_int (jab_cons (JE.b (JX.frz (jx_bin op_addU (JE.b (JX.frz (jx_bin op_mulU (jb_rd (pv 5)) (JE.b (JX.frz (jx_int)))))) (jb_rd (pv 3))))) (jab_nil) rfl) (by decide) (by decide) rfl rfl))) (JE.b (JX.frz (jx_int)))))) (JE.b (JX.frz (jx_int)))))) (jab_nil) rfl) (by decide) (by decide) rfl rfl))) (jb_rd (pv 1)))))))))
/-! _law_cells -/
def N__law_cells : List Str := ["_law_script", "_law_top", "_law_cells_here", "_law_k", "_law_cell", "_law_at_so"]
theorem sc__law_cells : FnScope N__law_cells ["_law_script", "_law_top"] (defScope (top 17)) := ⟨rfl, rfl, rfl, by decide +kernel, rfl, by decide +kernel, by decide +kernel⟩
def f__law_cells : T → SR :=
  sSeq (sSet 2 (sOrV (sCB (g1 gList) (sBCons (toB (frz (sSl (sRd 0) (sNoP) (sSmP (frz (sVar 1)))))) (sBNil))) (sLst (sCons (frz (sC (.int 0))) (sNil))))) (sSeq (sFor (sEnum (sCons (frz (sSl (sRd 0) (sSmP (frz (sVar 1))) (sSmP (frz (sC (.int 63)))))) (sNil))) (gTp 2 (gN1 (gNm 3) (gN1 (gNm 4) (gN0)))) (sSeq (sSet 5 (sOp2 (gInt (fun _ j => decide (0 < j)) fun i j => i % j) (toB (frz (sCB (g1 gIntC) (sBCons (sRd 3) (sBNil))))) (sRd 1))) (sStore 2 (frz (sOp2 gAdd (toB (frz (sOp2 gIx (sRd 2) (sRd 5)))) (toB (frz (sOp2 gMul (sRd 4) (toB (frz (sOp2 gAdd (sRd 3) (toB (frz (sC (.int 2)))))))))))) (frz (sVar 5))))) (sRetV 2))
def den__law_cells : List Sl → DR := run 4 f__law_cells
theorem ok__law_cells (B : Blt mg) (D__law_cells : DefOk K mg "_law_cells" (top 17) ["_law_script", "_law_top"])  : Callee P w K mg base px "_law_cells" 2 1 den__law_cells := by
  have scN := sc__law_cells
  refine callee (k := 0) (m := 4) (g := f__law_cells) D__law_cells sc__law_cells rfl fun f cdv A outer s H E hr tk po => ?_
  have hu64 := hr.units
  have hu65 : (A.deeper (envOfC "_law_cells" (defScope (top 17)) s.heap.objs.size f cdv)).units + 65 < cLine := by have := hr.un; omega
  have hu1 : (A.deeper (envOfC "_law_cells" (defScope (top 17)) s.heap.objs.size f cdv)).units + 1 < cLine := by have := hr.un; omega
  exact jss_cons (js_asg (ps_set (i := 2) scN.nd rfl (by first | exact Or.inl rfl | exact Or.inr rfl) (jx_or (jx_callTy cr_listU rfl B.list boot_list (jab_cons (JE.b (JX.frz (jx_sl (jb_rd (pv 0)) (jo_none) (jo_some (JX.frz (jx_var (pv 1))))))) (jab_nil) rfl) (by decide) (by decide) rfl rfl) (jx_one (jx_lst (ja_cons (JX.frz (jx_int)) (ja_nil) rfl)))) (by first | rfl | exact sw_false_name | decide)) (fun _ _ _ h => h))
      (jss_cons (js_for (gs := [3, 4]) po rfl (ji_enum rfl B.enumerate (ja_cons (JX.frz (jx_sl (jb_rd (pv 0)) (jo_some (JX.frz (jx_var (pv 1)))) (jo_some (JX.frz (jx_int))))) (ja_nil) rfl) rfl) (jg_tup rfl (jgs_cons (jg_name (pg_name (i := 3) scN.nd rfl (by first | exact Or.inl rfl | exact Or.inr rfl)) (by decide)) (jgs_cons (jg_name (pg_name (i := 4) scN.nd rfl (by first | exact Or.inl rfl | exact Or.inr rfl)) (by decide)) (jgs_nil) rfl) rfl) rfl rfl) (jss_cons (js_asg (ps_set (i := 5) scN.nd rfl (by first | exact Or.inl rfl | exact Or.inr rfl) (jx_bin op_modD (JE.b (JX.frz (jx_callTy cr_intU rfl B.int boot_int (jab_cons (jb_rd (pv 3)) (jab_nil) rfl) (by decide) (by decide) rfl rfl))) (jb_rd (pv 1))) (by first | rfl | exact sw_false_name | decide)) (fun _ _ _ h => h))
      (jss_one (js_store (pv 2) (JX.frz (jx_var (pv 5))) (JX.frz (jx_bin op_addU (JE.b (JX.frz (jx_ix (ix_U hu1) (jb_rd (pv 2)) (jb_rd (pv 5)) (fun _ _ => rfl)))) (JE.b (JX.frz (jx_bin op_mulU (jb_rd (pv 4)) (JE.b (JX.frz (jx_bin op_addU (jb_rd (pv 3)) (JE.b (JX.frz (jx_int))))))))))) (fun _ => rfl) rfl rfl rfl))) (fun _ => rfl))
      (jss_one (js_retV (pv 2))))
/-! _law_of -/
def N__law_of : List Str := ["_law_urn", "_law_some_so"]
theorem sc__law_of : FnScope N__law_of ["_law_urn", "_law_some_so"] (defScope (top 18)) := ⟨rfl, rfl, rfl, by decide +kernel, rfl, by decide +kernel, by decide +kernel⟩
def f__law_of : T → SR :=
  sRet (sOp2 gIx (sRd 1) (toB (frz (sCall den__law_take (sBCons (sRd 0) (sBCons (toB (frz (sCB (g1 gLen) (sBCons (sRd 1) (sBNil))))) (sBNil)))))))
def den__law_of : List Sl → DR := run 0 f__law_of
theorem ok__law_of (B : Blt mg) (D__law_of : DefOk K mg "_law_of" (top 18) ["_law_urn", "_law_some_so"]) (C__law_take : Callee P w K mg base px "_law_take" 2 1 den__law_take) : Callee P w K mg base px "_law_of" 2 2 den__law_of := by
  have scN := sc__law_of
  refine callee (k := 1) (m := 0) (g := f__law_of) D__law_of sc__law_of rfl fun f cdv A outer s H E hr tk po => ?_
  have hu64 := hr.units
  have hu65 : (A.deeper (envOfC "_law_of" (defScope (top 18)) s.heap.objs.size f cdv)).units + 65 < cLine := by have := hr.un; omega
  have hu1 : (A.deeper (envOfC "_law_of" (defScope (top 18)) s.heap.objs.size f cdv)).units + 1 < cLine := by have := hr.un; omega
  exact jss_one (js_ret (jx_ix (ix_U hu1) (jb_rd (pv 1)) (JE.b (JX.frz (jx_own C__law_take (hr.mono (by decide)) tk rfl (jab_cons (jb_rd (pv 0)) (jab_cons (JE.b (JX.frz (jx_callB cr_lenU rfl B.len boot_len (jab_cons (jb_rd (pv 1)) (jab_nil) rfl) (by decide) (by decide) rfl rfl))) (jab_nil) rfl) rfl) (blS (blS bl0)) (by decide) rfl rfl))) (fun _ _ => rfl)))
/-! _law_same -/
def N__law_same : List Str := ["_law_got", "_law_goal", "_law_mine_so", "_law_own"]
theorem sc__law_same : FnScope N__law_same ["_law_got", "_law_goal"] (defScope (top 19)) := ⟨rfl, rfl, rfl, by decide +kernel, rfl, by decide +kernel, by decide +kernel⟩
def f__law_same (dself : List Sl → DR) : T → SR :=
  sSeq (sIfS (sTru (toB (frz (sIsi ["list", "tuple"] (sRd 1))))) (sSeq (sIfS (sOr (sTB (sOp2 (gEq true) (toB (frz (sIsi ["list"] (sRd 0)))) (toB (frz (sIsi ["list"] (sRd 1)))))) (sTB (sOp2 (gEq true) (toB (frz (sIsi ["tuple"] (sRd 0)))) (toB (frz (sIsi ["tuple"] (sRd 1))))))) (sRet (sC (.bl false))) (sNext)) (sRet (sAndV (sOp2 (gEq false) (toB (frz (sCB (g1 gLen) (sBCons (sRd 0) (sBNil))))) (toB (frz (sCB (g1 gLen) (sBCons (sRd 1) (sBNil)))))) (sCB (g1 gAll) (sBCons (toB (frz (sLc (sZip (sCons (frz (sVar 0)) (sCons (frz (sVar 1)) (sNil)))) (gTp 2 (gN1 (gNm 2) (gN1 (gNm 3) (gN0)))) (fun τ => .ok true τ) (frz (sCall dself (sBCons (toB (frz (sVar 2))) (sBCons (toB (frz (sVar 3))) (sBNil))))) [2, 3]))) (sBNil)))))) (sNext)) (sSeq (sIfS (sOr (sTB (sOp2 (gIs false) (sRd 1) (toB (frz (sC .non))))) (sTru (toB (frz (sIsi ["bool", "str"] (sRd 1)))))) (sRet (sAndV (sOp2 (gEq false) (sRd 0) (sRd 1)) (sAndV (sOp2 (gEq false) (toB (frz (sIsi ["bool"] (sRd 0)))) (toB (frz (sIsi ["bool"] (sRd 1))))) (sOp2 (gEq false) (toB (frz (sOp2 (gIs false) (sRd 0) (toB (frz (sC .non)))))) (toB (frz (sOp2 (gIs false) (sRd 1) (toB (frz (sC .non)))))))))) (sNext)) (sRet (sAndV (sIsi ["int"] (sRd 0)) (sAndV (sNotV (sIsi ["bool"] (sRd 0))) (sOp2 (gEq false) (sRd 0) (sRd 1))))))
def den__law_same : Nat → List Sl → DR
  | 0 => fun _ => .stuck
  | n + 1 => run 2 (f__law_same (den__law_same n))
theorem ok__law_same (B : Blt mg) (D__law_same : DefOk K mg "_law_same" (top 19) ["_law_got", "_law_goal"])  : ∀ n : Nat, Callee P w K mg base px "_law_same" 2 (n + 0) (den__law_same n)
  | 0 => callee0 D__law_same
  | n + 1 => by
    have cself := ok__law_same B D__law_same  n
    have e1 : n + 1 + 0 = (n + 0) + 1 := by omega
    rw [e1]
    have scN := sc__law_same
    refine callee (k := n + 0) (m := 2) (g := f__law_same (den__law_same n)) D__law_same sc__law_same rfl fun f cdv A outer s H E hr tk po => ?_
    have hu64 := hr.units
    have hu65 : (A.deeper (envOfC "_law_same" (defScope (top 19)) s.heap.objs.size f cdv)).units + 65 < cLine := by have := hr.un; omega
    have hu1 : (A.deeper (envOfC "_law_same" (defScope (top 19)) s.heap.objs.size f cdv)).units + 1 < cLine := by have := hr.un; omega
    exact jss_cons (js_if (jt_truth (JE.b (JX.frz (jx_isi2 rfl B.isinstance (jb_rd (pv 1)) rfl B.list boot_list (by decide) (by decide) (by decide) rfl B.tuple boot_tuple (by decide) (by decide) (by decide) rfl))) (fun _ => rfl)) (jss_cons (js_if (JW.t (jw_or (jt_cmp (op_neU hu64) (JE.b (JX.frz (jx_isi1 rfl B.isinstance (jb_rd (pv 0)) rfl B.list boot_list (by decide) (by decide) (by decide) rfl))) (JE.b (JX.frz (jx_isi1 rfl B.isinstance (jb_rd (pv 1)) rfl B.list boot_list (by decide) (by decide) (by decide) rfl))) rfl) (jw_or1 (jt_cmp (op_neU hu64) (JE.b (JX.frz (jx_isi1 rfl B.isinstance (jb_rd (pv 0)) rfl B.tuple boot_tuple (by decide) (by decide) (by decide) rfl))) (JE.b (JX.frz (jx_isi1 rfl B.isinstance (jb_rd (pv 1)) rfl B.tuple boot_tuple (by decide) (by decide) (by decide) rfl))) rfl)))) (jss_one (js_ret (jx_bl))) (jss_nil))
      (jss_one (js_ret (jx_and (jx_cmp (op_eqU hu64) (JE.b (JX.frz (jx_callB cr_lenU rfl B.len boot_len (jab_cons (jb_rd (pv 0)) (jab_nil) rfl) (by decide) (by decide) rfl rfl))) (JE.b (JX.frz (jx_callB cr_lenU rfl B.len boot_len (jab_cons (jb_rd (pv 1)) (jab_nil) rfl) (by decide) (by decide) rfl rfl))) rfl) (jx_one (jx_callB (cr_allU rfl) rfl B.all boot_all (jab_cons (JE.b (JX.frz (jx_lc (own := [("_law_mine_so", 2), ("_law_own", 3)]) rfl scN.nd (ji_zip rfl B.zip (ja_cons (JX.frz (jx_var (pv 0))) (ja_cons (JX.frz (jx_var (pv 1))) (ja_nil) rfl) rfl) rfl rfl) (blkOk_by (own := [("_law_mine_so", 2), ("_law_own", 3)]) (N := N__law_same) (by kernel_rfl)) (fun _ _ _ _ _ => jg_tup rfl (jgs_cons (jg_name (pg_name (i := 2) scN.nd rfl (by first | exact Or.inl rfl | exact Or.inr rfl)) (by decide)) (jgs_cons (jg_name (pg_name (i := 3) scN.nd rfl (by first | exact Or.inl rfl | exact Or.inr rfl)) (by decide)) (jgs_nil) rfl) rfl) rfl rfl) (fun _ _ _ _ _ => jts_nil) (fun _ _ _ _ _ => JX.frz (jx_own cself (hr.mono (by omega)) takes0 rfl (jab_cons (JE.b (JX.frz (jx_var (pv 2)))) (jab_cons (JE.b (JX.frz (jx_var (pv 3)))) (jab_nil) rfl) rfl) (blS (blS bl0)) (by decide) rfl rfl)) (fun _ => rfl)))) (jab_nil) rfl) (by decide) (by decide) rfl rfl)))))) (jss_nil))
      (jss_cons (js_if (JW.t (jw_or (jt_cmp op_isU (jb_rd (pv 1)) (JE.b (JX.frz (jx_non))) rfl) (jw_or1 (jt_truth (JE.b (JX.frz (jx_isi2 rfl B.isinstance (jb_rd (pv 1)) rfl B.bool boot_bool (by decide) (by decide) (by decide) rfl B.str boot_str (by decide) (by decide) (by decide) rfl))) (fun _ => rfl))))) (jss_one (js_ret (jx_and (jx_cmp (op_eqU hu64) (jb_rd (pv 0)) (jb_rd (pv 1)) rfl) (jx_and (jx_cmp (op_eqU hu64) (JE.b (JX.frz (jx_isi1 rfl B.isinstance (jb_rd (pv 0)) rfl B.bool boot_bool (by decide) (by decide) (by decide) rfl))) (JE.b (JX.frz (jx_isi1 rfl B.isinstance (jb_rd (pv 1)) rfl B.bool boot_bool (by decide) (by decide) (by decide) rfl))) rfl) (jx_one (jx_cmp (op_eqU hu64) (JE.b (JX.frz (jx_cmp op_isU (jb_rd (pv 0)) (JE.b (JX.frz (jx_non))) rfl))) (JE.b (JX.frz (jx_cmp op_isU (jb_rd (pv 1)) (JE.b (JX.frz (jx_non))) rfl))) rfl)))))) (jss_nil))
      (jss_one (js_ret (jx_and (jx_isi1 rfl B.isinstance (jb_rd (pv 0)) rfl B.int boot_int (by decide) (by decide) (by decide) rfl) (jx_and (jx_not (jx_isi1 rfl B.isinstance (jb_rd (pv 0)) rfl B.bool boot_bool (by decide) (by decide) (by decide) rfl)) (jx_one (jx_cmp (op_eqU hu64) (jb_rd (pv 0)) (jb_rd (pv 1)) rfl)))))))
/-! _law_stages -/
def N__law_stages : List Str := ["_law_urn", "_law_cap_so", "_law_most_so", "_law_found", "_law_lap", "_law_many"]
theorem sc__law_stages : FnScope N__law_stages ["_law_urn", "_law_cap_so", "_law_most_so"] (defScope (top 20)) := ⟨rfl, rfl, rfl, by decide +kernel, rfl, by decide +kernel, by decide +kernel⟩
def f__law_stages : T → SR :=
  sSeq (sSet 3 (sLst (sNil))) (sSeq (sFor (sRng1 (sCons (frz (sOp2 gAdd (toB (frz (sC (.int 1)))) (toB (frz (sCall den__law_take (sBCons (sRd 0) (sBCons (toB (frz (sVar 2))) (sBNil)))))))) (sNil))) (gNm 4) (sSeq (sSet 5 (sOp2 gAdd (toB (frz (sC (.int 1)))) (toB (frz (sCall den__law_take (sBCons (sRd 0) (sBCons (toB (frz (sVar 1))) (sBNil)))))))) (sDrop (sMeth 3 mAppend (sCons (frz (sTup (sCons (frz (sVar 5)) (sCons (frz (sOp2 gIx (toB (frz (sLst (sCons (frz (sVar 5)) (sCons (frz (sOp2 gAdd (toB (frz (sC (.int 1)))) (toB (frz (sCall den__law_take (sBCons (sRd 0) (sBCons (toB (frz (sCB gMin (sBCons (sRd 5) (sBCons (toB (frz (sC (.int 12)))) (sBNil)))))) (sBNil)))))))) (sNil)))))) (toB (frz (sCall den__law_take (sBCons (sRd 0) (sBCons (toB (frz (sC (.int 2)))) (sBNil)))))))) (sNil))))) (sNil)))))) (sRet (sCB (g1 gTuple) (sBCons (sRd 3) (sBNil)))))
def den__law_stages : List Sl → DR := run 3 f__law_stages
theorem ok__law_stages (B : Blt mg) (D__law_stages : DefOk K mg "_law_stages" (top 20) ["_law_urn", "_law_cap_so", "_law_most_so"]) (C__law_take : Callee P w K mg base px "_law_take" 2 1 den__law_take) : Callee P w K mg base px "_law_stages" 3 2 den__law_stages := by
  have scN := sc__law_stages
  refine callee (k := 1) (m := 3) (g := f__law_stages) D__law_stages sc__law_stages rfl fun f cdv A outer s H E hr tk po => ?_
  have hu64 := hr.units
  have hu65 : (A.deeper (envOfC "_law_stages" (defScope (top 20)) s.heap.objs.size f cdv)).units + 65 < cLine := by have := hr.un; omega
  have hu1 : (A.deeper (envOfC "_law_stages" (defScope (top 20)) s.heap.objs.size f cdv)).units + 1 < cLine := by have := hr.un; omega
  exact jss_cons (js_asg (ps_set (i := 3) scN.nd rfl (by first | exact Or.inl rfl | exact Or.inr rfl) (jx_lst (ja_nil)) (by first | rfl | exact sw_false_name | decide)) (fun _ _ _ h => h))
      (jss_cons (js_for (gs := [4]) po rfl (ji_range1 rfl B.range (ja_cons (JX.frz (jx_bin op_addU (JE.b (JX.frz (jx_int))) (JE.b (JX.frz (jx_own C__law_take (hr.mono (by decide)) tk rfl (jab_cons (jb_rd (pv 0)) (jab_cons (JE.b (JX.frz (jx_var (pv 2)))) (jab_nil) rfl) rfl) (blS (blS bl0)) (by decide) rfl rfl))))) (ja_nil) rfl) rfl) (jg_name (pg_name (i := 4) scN.nd rfl (by first | exact Or.inl rfl | exact Or.inr rfl)) (by decide)) (jss_cons (js_asg (ps_set (i := 5) scN.nd rfl (by first | exact Or.inl rfl | exact Or.inr rfl) (jx_bin op_addU (JE.b (JX.frz (jx_int))) (JE.b (JX.frz (jx_own C__law_take (hr.mono (by decide)) tk rfl (jab_cons (jb_rd (pv 0)) (jab_cons (JE.b (JX.frz (jx_var (pv 1)))) (jab_nil) rfl) rfl) (blS (blS bl0)) (by decide) rfl rfl)))) (by first | rfl | exact sw_false_name | decide)) (fun _ _ _ h => h))
      (jss_one (js_expr (jx_meth PySem.F.slot_list_append PySem.F.type_list_append mo_append (pv 3) (ja_cons (JX.frz (jx_tup (ja_cons (JX.frz (jx_var (pv 5))) (ja_cons (JX.frz (jx_ix (ix_U hu1) (JE.b (JX.frz (jx_lst (ja_cons (JX.frz (jx_var (pv 5))) (ja_cons (JX.frz (jx_bin op_addU (JE.b (JX.frz (jx_int))) (JE.b (JX.frz (jx_own C__law_take (hr.mono (by decide)) tk rfl (jab_cons (jb_rd (pv 0)) (jab_cons (JE.b (JX.frz (jx_callB (cr_minU rfl) rfl B.min boot_min (jab_cons (jb_rd (pv 5)) (jab_cons (JE.b (JX.frz (jx_int))) (jab_nil) rfl) rfl) (by decide) (by decide) rfl rfl))) (jab_nil) rfl) rfl) (blS (blS bl0)) (by decide) rfl rfl))))) (ja_nil) rfl) rfl)))) (JE.b (JX.frz (jx_own C__law_take (hr.mono (by decide)) tk rfl (jab_cons (jb_rd (pv 0)) (jab_cons (JE.b (JX.frz (jx_int))) (jab_nil) rfl) rfl) (blS (blS bl0)) (by decide) rfl rfl))) (fun _ _ => rfl))) (ja_nil) rfl) rfl))) (ja_nil) rfl) rfl rfl rfl rfl rfl) rfl))) (fun _ => rfl))
      (jss_one (js_ret (jx_callTy (cr_tupleU rfl) rfl B.tuple boot_tuple (jab_cons (jb_rd (pv 3)) (jab_nil) rfl) (by decide) (by decide) rfl rfl))))
/-! _law_by_hand_right -/
def N__law_by_hand_right : List Str := ["_law_far", "_law_rows_so", "_law_got", "_law_goal", "_law_long_so", "_law_ways_so", "_law_k"]
theorem sc__law_by_hand_right : FnScope N__law_by_hand_right [] (defScope (top 21)) := ⟨rfl, rfl, rfl, by decide +kernel, rfl, by decide +kernel, by decide +kernel⟩
def f__law_by_hand_right : T → SR :=
  sSeq (sSet 0 (sOp2 (gInt cPow fun i j => i ^ j.toNat) (toB (frz (sC (.int 10)))) (toB (frz (sC (.int 30)))))) (sSeq (sSet 1 (sTup (sCons (frz (sTup (sCons (frz (sVar 0)) (sCons (frz (sOp2 (gInt (fun _ _ => true) fun i j => i - j) (sRd 0) (toB (frz (sC (.int 1)))))) (sNil))))) (sCons (frz (sTup (sCons (frz (sVar 0)) (sCons (frz (sC (.int 3))) (sNil))))) (sCons (frz (sTup (sCons (frz (sC (.int 7))) (sCons (frz (sC (.int 7))) (sNil))))) (sCons (frz (sTup (sCons (frz (sC (.int 2))) (sCons (frz (sC (.int 1))) (sNil))))) (sNil))))))) (sSeq (sSet 2 (sLst (sCons (frz (sCall den_how_many_units (sBCons (toB (frz (sVar 1))) (sBNil)))) (sCons (frz (sCall den_earliest_place (sBCons (toB (frz (sVar 1))) (sBCons (toB (frz (sVar 0))) (sBNil))))) (sNil))))) (sSeq (sSet 2 (sOp2 gAdd (sRd 2) (toB (frz (sLst (sCons (frz (sCall den_latest_place (sBCons (toB (frz (sVar 1))) (sBCons (toB (frz (sOp2 gMul (toB (frz (sC (.int 2)))) (sRd 0)))) (sBNil))))) (sCons (frz (sCall den_is_ahead (sBCons (toB (frz (sVar 1))) (sBCons (toB (frz (sOp2 gMul (toB (frz (sC (.int 2)))) (sRd 0)))) (sBCons (toB (frz (sOp2 gAdd (toB (frz (sOp2 gMul (toB (frz (sC (.int 2)))) (sRd 0)))) (toB (frz (sC (.int 8))))))) (sBNil)))))) (sNil)))))))) (sSeq (sSet 2 (sOp2 gAdd (sRd 2) (toB (frz (sLst (sCons (frz (sCall den_how_many_paths (sBCons (toB (frz (sVar 1))) (sBCons (toB (frz (sC (.int 1)))) (sBNil))))) (sCons (frz (sCall den_fewest_lost (sBCons (toB (frz (sVar 1))) (sBCons (toB (frz (sC (.int 1)))) (sBNil))))) (sCons (frz (sCall den_fewest_lost (sBCons (toB (frz (sVar 1))) (sBCons (toB (frz (sC (.int 3)))) (sBNil))))) (sNil))))))))) (sSeq (sSet 2 (sOp2 gAdd (sRd 2) (toB (frz (sLst (sCons (frz (sCall den_stage_of (sBCons (toB (frz (sVar 1))) (sBCons (toB (frz (sOp2 gAdd (toB (frz (sOp2 gMul (toB (frz (sC (.int 2)))) (sRd 0)))) (toB (frz (sC (.int 7))))))) (sBNil))))) (sNil))))))) (sSeq (sDrop (sMeth 2 mAppend (sCons (frz (sCall den_is_ahead (sBCons (toB (frz (sVar 1))) (sBCons (toB (frz (sC (.int 0)))) (sBCons (toB (frz (sVar 0))) (sBNil)))))) (sNil)))) (sSeq (sSet 3 (sLst (sCons (frz (sOp2 gAdd (toB (frz (sOp2 gMul (toB (frz (sC (.int 2)))) (sRd 0)))) (toB (frz (sC (.int 9)))))) (sCons (frz (sOp2 (gInt (fun _ _ => true) fun i j => i - j) (sRd 0) (toB (frz (sC (.int 1)))))) (sCons (frz (sOp2 gAdd (toB (frz (sOp2 gMul (toB (frz (sC (.int 2)))) (sRd 0)))) (toB (frz (sC (.int 6)))))) (sCons (frz (sC (.bl true))) (sCons (frz (sVar 0)) (sCons (frz (sC (.int 2))) (sCons (frz (sC (.int 1))) (sCons (frz (sC (.int 3))) (sCons (frz (sC (.bl false))) (sNil)))))))))))) (sSeq (sSet 4 (sOp2 gMul (toB (frz (sTup (sCons (frz (sTup (sCons (frz (sC (.int 5))) (sCons (frz (sC (.int 3))) (sNil))))) (sNil))))) (toB (frz (sC (.int 40)))))) (sSeq (sSet 2 (sOp2 gAdd (sRd 2) (toB (frz (sLst (sCons (frz (sCall den_how_many_paths (sBCons (toB (frz (sVar 4))) (sBCons (toB (frz (sC (.int 39)))) (sBNil))))) (sCons (frz (sCall den_fewest_lost (sBCons (toB (frz (sVar 4))) (sBCons (toB (frz (sC (.int 39)))) (sBNil))))) (sNil)))))))) (sSeq (sSet 2 (sOp2 gAdd (sRd 2) (toB (frz (sLst (sCons (frz (sCall den_earliest_place (sBCons (toB (frz (sVar 4))) (sBCons (toB (frz (sC (.int 199)))) (sBNil))))) (sCons (frz (sCall den_latest_place (sBCons (toB (frz (sVar 4))) (sBCons (toB (frz (sC (.int 0)))) (sBNil))))) (sNil)))))))) (sSeq (sSet 3 (sOp2 gAdd (sRd 3) (toB (frz (sLst (sCons (frz (sOp2 (gInt cPow fun i j => i ^ j.toNat) (toB (frz (sC (.int 10)))) (toB (frz (sC (.int 39)))))) (sCons (frz (sC (.int 3))) (sCons (frz (sC (.int 117))) (sCons (frz (sC (.int 199))) (sNil)))))))))) (sSeq (sSet 5 (sC (.int 1))) (sSeq (sFor (sRng1 (sCons (frz (sC (.int 12))) (sNil))) (gNm 6) (sSet 5 (sOp2 (gInt cDiv fun i j => i / j) (toB (frz (sOp2 gMul (sRd 5) (toB (frz (sOp2 (gInt (fun _ _ => true) fun i j => i - j) (sRd 0) (sRd 6))))))) (toB (frz (sOp2 gAdd (sRd 6) (toB (frz (sC (.int 1)))))))))) (sSeq (sSet 2 (sOp2 gAdd (sRd 2) (toB (frz (sLst (sCons (frz (sCall den_how_many_paths (sBCons (toB (frz (sTup (sCons (frz (sTup (sCons (frz (sVar 0)) (sCons (frz (sOp2 (gInt (fun _ _ => true) fun i j => i - j) (sRd 0) (toB (frz (sC (.int 12)))))) (sNil))))) (sCons (frz (sTup (sCons (frz (sC (.int 99))) (sCons (frz (sC (.int 1))) (sNil))))) (sNil)))))) (sBCons (toB (frz (sC (.int 1)))) (sBNil))))) (sNil))))))) (sSeq (sSet 2 (sOp2 gAdd (sRd 2) (toB (frz (sLst (sCons (frz (sCall den_fewest_lost (sBCons (toB (frz (sTup (sCons (frz (sTup (sCons (frz (sVar 0)) (sCons (frz (sOp2 (gInt (fun _ _ => true) fun i j => i - j) (sRd 0) (toB (frz (sC (.int 12)))))) (sNil))))) (sCons (frz (sTup (sCons (frz (sC (.int 99))) (sCons (frz (sC (.int 1))) (sNil))))) (sNil)))))) (sBCons (toB (frz (sC (.int 1)))) (sBNil))))) (sNil))))))) (sRet (sCall (den__law_same 12) (sBCons (toB (frz (sVar 2))) (sBCons (toB (frz (sOp2 gAdd (sRd 3) (toB (frz (sLst (sCons (frz (sVar 5)) (sCons (frz (sC (.int 13))) (sNil))))))))) (sBNil))))))))))))))))))))
def den__law_by_hand_right : List Sl → DR := run 7 f__law_by_hand_right
theorem ok__law_by_hand_right (B : Blt mg) (D__law_by_hand_right : DefOk K mg "_law_by_hand_right" (top 21) []) (C_earliest_place : Callee P w K mg base px "earliest_place" 2 2 den_earliest_place) (C_how_many_units : Callee P w K mg base px "how_many_units" 1 1 den_how_many_units) (C_is_ahead : Callee P w K mg base px "is_ahead" 3 2 den_is_ahead) (C_latest_place : Callee P w K mg base px "latest_place" 2 2 den_latest_place) (C_fewest_lost : Callee P w K mg base px "fewest_lost" 2 2 den_fewest_lost) (C_how_many_paths : Callee P w K mg base px "how_many_paths" 2 2 den_how_many_paths) (C_stage_of : Callee P w K mg base px "stage_of" 2 1 den_stage_of) (C__law_same : Callee P w K mg base px "_law_same" 2 12 (den__law_same 12)) : Callee P w K mg base px "_law_by_hand_right" 0 13 den__law_by_hand_right := by
  have scN := sc__law_by_hand_right
  refine callee (k := 12) (m := 7) (g := f__law_by_hand_right) D__law_by_hand_right sc__law_by_hand_right rfl fun f cdv A outer s H E hr tk po => ?_
  have hu64 := hr.units
  have hu65 : (A.deeper (envOfC "_law_by_hand_right" (defScope (top 21)) s.heap.objs.size f cdv)).units + 65 < cLine := by have := hr.un; omega
  have hu1 : (A.deeper (envOfC "_law_by_hand_right" (defScope (top 21)) s.heap.objs.size f cdv)).units + 1 < cLine := by have := hr.un; omega
  exact jss_cons (js_asg (ps_set (i := 0) scN.nd rfl (by first | exact Or.inl rfl | exact Or.inr rfl) (jx_bin op_powD (JE.b (JX.frz (jx_int))) (JE.b (JX.frz (jx_int)))) (by first | rfl | exact sw_false_name | decide)) (fun _ _ _ h => h))
      (jss_cons (js_asg (ps_set (i := 1) scN.nd rfl (by first | exact Or.inl rfl | exact Or.inr rfl) (jx_tup (ja_cons (JX.frz (jx_tup (ja_cons (JX.frz (jx_var (pv 0))) (ja_cons (JX.frz (jx_bin op_subI (jb_rd (pv 0)) (JE.b (JX.frz (jx_int))))) (ja_nil) rfl) rfl))) (ja_cons (JX.frz (jx_tup (ja_cons (JX.frz (jx_var (pv 0))) (ja_cons (JX.frz (jx_int)) (ja_nil) rfl) rfl))) (ja_cons (JX.frz (jx_tup (ja_cons (JX.frz (jx_int)) (ja_cons (JX.frz (jx_int)) (ja_nil) rfl) rfl))) (ja_cons (JX.frz (jx_tup (ja_cons (JX.frz (jx_int)) (ja_cons (JX.frz (jx_int)) (ja_nil) rfl) rfl))) (ja_nil) rfl) rfl) rfl) rfl)) (by first | rfl | exact sw_false_name | decide)) (fun _ _ _ h => h))
      (jss_cons (js_asg (ps_set (i := 2) scN.nd rfl (by first | exact Or.inl rfl | exact Or.inr rfl) (jx_lst (ja_cons (JX.frz (jx_own C_how_many_units (hr.mono (by decide)) tk rfl (jab_cons (JE.b (JX.frz (jx_var (pv 1)))) (jab_nil) rfl) (blS bl0) (by decide) rfl rfl)) (ja_cons (JX.frz (jx_own C_earliest_place (hr.mono (by decide)) tk rfl (jab_cons (JE.b (JX.frz (jx_var (pv 1)))) (jab_cons (JE.b (JX.frz (jx_var (pv 0)))) (jab_nil) rfl) rfl) (blS (blS bl0)) (by decide) rfl rfl)) (ja_nil) rfl) rfl)) (by first | rfl | exact sw_false_name | decide)) (fun _ _ _ h => h))
      (jss_cons (js_asg (ps_set (i := 2) scN.nd rfl (by first | exact Or.inl rfl | exact Or.inr rfl) (jx_bin op_addU (jb_rd (pv 2)) (JE.b (JX.frz (jx_lst (ja_cons (JX.frz (jx_own C_latest_place (hr.mono (by decide)) tk rfl (jab_cons (JE.b (JX.frz (jx_var (pv 1)))) (jab_cons (JE.b (JX.frz (jx_bin op_mulU (JE.b (JX.frz (jx_int))) (jb_rd (pv 0))))) (jab_nil) rfl) rfl) (blS (blS bl0)) (by decide) rfl rfl)) (ja_cons (JX.frz (jx_own C_is_ahead (hr.mono (by decide)) tk rfl (jab_cons (JE.b (JX.frz (jx_var (pv 1)))) (jab_cons (JE.b (JX.frz (jx_bin op_mulU (JE.b (JX.frz (jx_int))) (jb_rd (pv 0))))) (jab_cons (JE.b (JX.frz (jx_bin op_addU (JE.b (JX.frz (jx_bin op_mulU (JE.b (JX.frz (jx_int))) (jb_rd (pv 0))))) (JE.b (JX.frz (jx_int)))))) (jab_nil) rfl) rfl) rfl) (blS (blS (blS bl0))) (by decide) rfl rfl)) (ja_nil) rfl) rfl))))) (by first | rfl | exact sw_false_name | decide)) (fun _ _ _ h => h))
      (jss_cons (js_asg (ps_set (i := 2) scN.nd rfl (by first | exact Or.inl rfl | exact Or.inr rfl) (jx_bin op_addU (jb_rd (pv 2)) (JE.b (JX.frz (jx_lst (ja_cons (JX.frz (jx_own C_how_many_paths (hr.mono (by decide)) tk rfl (jab_cons (JE.b (JX.frz (jx_var (pv 1)))) (jab_cons (JE.b (JX.frz (jx_int))) (jab_nil) rfl) rfl) (blS (blS bl0)) (by decide) rfl rfl)) (ja_cons (JX.frz (jx_own C_fewest_lost (hr.mono (by decide)) tk rfl (jab_cons (JE.b (JX.frz (jx_var (pv 1)))) (jab_cons (JE.b (JX.frz (jx_int))) (jab_nil) rfl) rfl) (blS (blS bl0)) (by decide) rfl rfl)) (ja_cons (JX.frz (jx_own C_fewest_lost (hr.mono (by decide)) tk rfl (jab_cons (JE.b (JX.frz (jx_var (pv 1)))) (jab_cons (JE.b (JX.frz (jx_int))) (jab_nil) rfl) rfl) (blS (blS bl0)) (by decide) rfl rfl)) (ja_nil) rfl) rfl) rfl))))) (by first | rfl | exact sw_false_name | decide)) (fun _ _ _ h => h))
      (jss_cons (js_asg (ps_set (i := 2) scN.nd rfl (by first | exact Or.inl rfl | exact Or.inr rfl) (jx_bin op_addU (jb_rd (pv 2)) (JE.b (JX.frz (jx_lst (ja_cons (JX.frz (jx_own C_stage_of (hr.mono (by decide)) tk rfl (jab_cons (JE.b (JX.frz (jx_var (pv 1)))) (jab_cons (JE.b (JX.frz (jx_bin op_addU (JE.b (JX.frz (jx_bin op_mulU (JE.b (JX.frz (jx_int))) (jb_rd (pv 0))))) (JE.b (JX.frz (jx_int)))))) (jab_nil) rfl) rfl) (blS (blS bl0)) (by decide) rfl rfl)) (ja_nil) rfl))))) (by first | rfl | exact sw_false_name | decide)) (fun _ _ _ h => h))
      (jss_cons (js_expr (jx_meth PySem.F.slot_list_append PySem.F.type_list_append mo_append (pv 2) (ja_cons (JX.frz (jx_own C_is_ahead (hr.mono (by decide)) tk rfl (jab_cons (JE.b (JX.frz (jx_var (pv 1)))) (jab_cons (JE.b (JX.frz (jx_int))) (jab_cons (JE.b (JX.frz (jx_var (pv 0)))) (jab_nil) rfl) rfl) rfl) (blS (blS (blS bl0))) (by decide) rfl rfl)) (ja_nil) rfl) rfl rfl rfl rfl rfl) rfl)
      (jss_cons (js_asg (ps_set (i := 3) scN.nd rfl (by first | exact Or.inl rfl | exact Or.inr rfl) (jx_lst (ja_cons (JX.frz (jx_bin op_addU (JE.b (JX.frz (jx_bin op_mulU (JE.b (JX.frz (jx_int))) (jb_rd (pv 0))))) (JE.b (JX.frz (jx_int))))) (ja_cons (JX.frz (jx_bin op_subI (jb_rd (pv 0)) (JE.b (JX.frz (jx_int))))) (ja_cons (JX.frz (jx_bin op_addU (JE.b (JX.frz (jx_bin op_mulU (JE.b (JX.frz (jx_int))) (jb_rd (pv 0))))) (JE.b (JX.frz (jx_int))))) (ja_cons (JX.frz (jx_bl)) (ja_cons (JX.frz (jx_var (pv 0))) (ja_cons (JX.frz (jx_int)) (ja_cons (JX.frz (jx_int)) (ja_cons (JX.frz (jx_int)) (ja_cons (JX.frz (jx_bl)) (ja_nil) rfl) rfl) rfl) rfl) rfl) rfl) rfl) rfl) rfl)) (by first | rfl | exact sw_false_name | decide)) (fun _ _ _ h => h))
      (jss_cons (js_asg (ps_set (i := 4) scN.nd rfl (by first | exact Or.inl rfl | exact Or.inr rfl) (jx_bin op_mulU (JE.b (JX.frz (jx_tup (ja_cons (JX.frz (jx_tup (ja_cons (JX.frz (jx_int)) (ja_cons (JX.frz (jx_int)) (ja_nil) rfl) rfl))) (ja_nil) rfl)))) (JE.b (JX.frz (jx_int)))) (by first | rfl | exact sw_false_name | decide)) (fun _ _ _ h => h))
      (jss_cons (js_asg (ps_set (i := 2) scN.nd rfl (by first | exact Or.inl rfl | exact Or.inr rfl) (jx_bin op_addU (jb_rd (pv 2)) (JE.b (JX.frz (jx_lst (ja_cons (JX.frz (jx_own C_how_many_paths (hr.mono (by decide)) tk rfl (jab_cons (JE.b (JX.frz (jx_var (pv 4)))) (jab_cons (JE.b (JX.frz (jx_int))) (jab_nil) rfl) rfl) (blS (blS bl0)) (by decide) rfl rfl)) (ja_cons (JX.frz (jx_own C_fewest_lost (hr.mono (by decide)) tk rfl (jab_cons (JE.b (JX.frz (jx_var (pv 4)))) (jab_cons (JE.b (JX.frz (jx_int))) (jab_nil) rfl) rfl) (blS (blS bl0)) (by decide) rfl rfl)) (ja_nil) rfl) rfl))))) (by first | rfl | exact sw_false_name | decide)) (fun _ _ _ h => h))
      (jss_cons (js_asg (ps_set (i := 2) scN.nd rfl (by first | exact Or.inl rfl | exact Or.inr rfl) (jx_bin op_addU (jb_rd (pv 2)) (JE.b (JX.frz (jx_lst (ja_cons (JX.frz (jx_own C_earliest_place (hr.mono (by decide)) tk rfl (jab_cons (JE.b (JX.frz (jx_var (pv 4)))) (jab_cons (JE.b (JX.frz (jx_int))) (jab_nil) rfl) rfl) (blS (blS bl0)) (by decide) rfl rfl)) (ja_cons (JX.frz (jx_own C_latest_place (hr.mono (by decide)) tk rfl (jab_cons (JE.b (JX.frz (jx_var (pv 4)))) (jab_cons (JE.b (JX.frz (jx_int))) (jab_nil) rfl) rfl) (blS (blS bl0)) (by decide) rfl rfl)) (ja_nil) rfl) rfl))))) (by first | rfl | exact sw_false_name | decide)) (fun _ _ _ h => h))
      (jss_cons (js_asg (ps_set (i := 3) scN.nd rfl (by first | exact Or.inl rfl | exact Or.inr rfl) (jx_bin op_addU (jb_rd (pv 3)) (JE.b (JX.frz (jx_lst (ja_cons (JX.frz (jx_bin op_powD (JE.b (JX.frz (jx_int))) (JE.b (JX.frz (jx_int))))) (ja_cons (JX.frz (jx_int)) (ja_cons (JX.frz (jx_int)) (ja_cons (JX.frz (jx_int)) (ja_nil) rfl) rfl) rfl) rfl))))) (by first | rfl | exact sw_false_name | decide)) (fun _ _ _ h => h))
      (jss_cons (js_asg (ps_set (i := 5) scN.nd rfl (by first | exact Or.inl rfl | exact Or.inr rfl) (jx_int) (by first | rfl | exact sw_false_name | decide)) (fun _ _ _ h => h))
      (jss_cons (js_for (gs := [6]) po rfl (ji_range1 rfl B.range (ja_cons (JX.frz (jx_int)) (ja_nil) rfl) rfl) (jg_name (pg_name (i := 6) scN.nd rfl (by first | exact Or.inl rfl | exact Or.inr rfl)) (by decide)) (jss_one (js_asg (ps_set (i := 5) scN.nd rfl (by first | exact Or.inl rfl | exact Or.inr rfl) (jx_bin op_divD (JE.b (JX.frz (jx_bin op_mulU (jb_rd (pv 5)) (JE.b (JX.frz (jx_bin op_subI (jb_rd (pv 0)) (jb_rd (pv 6)))))))) (JE.b (JX.frz (jx_bin op_addU (jb_rd (pv 6)) (JE.b (JX.frz (jx_int))))))) (by first | rfl | exact sw_false_name | decide)) (fun _ _ _ h => h))) (fun _ => rfl))
      (jss_cons (js_asg (ps_set (i := 2) scN.nd rfl (by first | exact Or.inl rfl | exact Or.inr rfl) (jx_bin op_addU (jb_rd (pv 2)) (JE.b (JX.frz (jx_lst (ja_cons (JX.frz (jx_own C_how_many_paths (hr.mono (by decide)) tk rfl (jab_cons (JE.b (JX.frz (jx_tup (ja_cons (JX.frz (jx_tup (ja_cons (JX.frz (jx_var (pv 0))) (ja_cons (JX.frz (jx_bin op_subI (jb_rd (pv 0)) (JE.b (JX.frz (jx_int))))) (ja_nil) rfl) rfl))) (ja_cons (JX.frz (jx_tup (ja_cons (JX.frz (jx_int)) (ja_cons (JX.frz (jx_int)) (ja_nil) rfl) rfl))) (ja_nil) rfl) rfl)))) (jab_cons (JE.b (JX.frz (jx_int))) (jab_nil) rfl) rfl) (blS (blS bl0)) (by decide) rfl rfl)) (ja_nil) rfl))))) (by first | rfl | exact sw_false_name | decide)) (fun _ _ _ h => h))
      (jss_cons (js_asg (ps_set (i := 2) scN.nd rfl (by first | exact Or.inl rfl | exact Or.inr rfl) (jx_bin op_addU (jb_rd (pv 2)) (JE.b (JX.frz (jx_lst (ja_cons (JX.frz (jx_own C_fewest_lost (hr.mono (by decide)) tk rfl (jab_cons (JE.b (JX.frz (jx_tup (ja_cons (JX.frz (jx_tup (ja_cons (JX.frz (jx_var (pv 0))) (ja_cons (JX.frz (jx_bin op_subI (jb_rd (pv 0)) (JE.b (JX.frz (jx_int))))) (ja_nil) rfl) rfl))) (ja_cons (JX.frz (jx_tup (ja_cons (JX.frz (jx_int)) (ja_cons (JX.frz (jx_int)) (ja_nil) rfl) rfl))) (ja_nil) rfl) rfl)))) (jab_cons (JE.b (JX.frz (jx_int))) (jab_nil) rfl) rfl) (blS (blS bl0)) (by decide) rfl rfl)) (ja_nil) rfl))))) (by first | rfl | exact sw_false_name | decide)) (fun _ _ _ h => h))
      (jss_one (js_ret (jx_own C__law_same (hr.mono (by decide)) tk rfl (jab_cons (JE.b (JX.frz (jx_var (pv 2)))) (jab_cons (JE.b (JX.frz (jx_bin op_addU (jb_rd (pv 3)) (JE.b (JX.frz (jx_lst (ja_cons (JX.frz (jx_var (pv 5))) (ja_cons (JX.frz (jx_int)) (ja_nil) rfl) rfl))))))) (jab_nil) rfl) rfl) (blS (blS bl0)) (by decide) rfl rfl))))))))))))))))))
/-! _law_two_right -/
def N__law_two_right : List Str := ["_law_urn", "_law_early", "_law_late", "_law_both", "_law_near", "_law_far", "_law_own", "_law_tag", "_law_base", "_law_got", "_law_goal", "_law_many", "_law_few", "_law_ways_so", "_law_least", "_law_k"]
theorem sc__law_two_right : FnScope N__law_two_right ["_law_urn", "_law_early", "_law_late"] (defScope (top 22)) := ⟨rfl, rfl, rfl, by decide +kernel, rfl, by decide +kernel, by decide +kernel⟩
def f__law_two_right : T → SR :=
  sSeq (sPar [3, 4, 5] (sXCons (sOp2 gAdd (sRd 1) (sRd 2)) (sXCons (sCall den_how_many_units (sBCons (toB (frz (sVar 1))) (sBNil))) (sXCons (sCall den_how_many_units (sBCons (toB (frz (sVar 2))) (sBNil))) (sXNil))))) (sSeq (sPar [6, 7] (sXCons (sCall den__law_take (sBCons (sRd 0) (sBCons (toB (frz (sVar 4))) (sBNil)))) (sXCons (sCall den__law_take (sBCons (sRd 0) (sBCons (toB (frz (sVar 5))) (sBNil)))) (sXNil)))) (sSeq (sSet 8 (sCB (g1 gSum2) (sBCons (toB (frz (sLc (sItems (frz (sVar 1))) (gTp 2 (gN1 (gNm 11) (gN1 (gNm 12) (gN0)))) (fun τ => .ok true τ) (frz (sVar 12)) [11, 12]))) (sBNil)))) (sSeq (sSet 9 (sLst (sCons (frz (sCall den_how_many_units (sBCons (toB (frz (sVar 3))) (sBNil)))) (sCons (frz (sCall den_stage_of (sBCons (toB (frz (sVar 3))) (sBCons (toB (frz (sVar 6))) (sBNil))))) (sCons (frz (sCall den_stage_of (sBCons (toB (frz (sVar 3))) (sBCons (toB (frz (sOp2 gAdd (sRd 4) (sRd 7)))) (sBNil))))) (sNil)))))) (sSeq (sSet 9 (sOp2 gAdd (sRd 9) (toB (frz (sLst (sCons (frz (sCall den_earliest_place (sBCons (toB (frz (sVar 3))) (sBCons (toB (frz (sVar 6))) (sBNil))))) (sNil))))))) (sSeq (sSet 10 (sLst (sCons (frz (sOp2 gAdd (sRd 4) (sRd 5))) (sCons (frz (sCall den_stage_of (sBCons (toB (frz (sVar 1))) (sBCons (toB (frz (sVar 6))) (sBNil))))) (sCons (frz (sOp2 gAdd (toB (frz (sCB (g1 gLen) (sBCons (sRd 1) (sBNil))))) (toB (frz (sCall den_stage_of (sBCons (toB (frz (sVar 2))) (sBCons (toB (frz (sVar 7))) (sBNil)))))))) (sNil)))))) (sSeq (sSet 10 (sOp2 gAdd (sRd 10) (toB (frz (sLst (sCons (frz (sCall den_earliest_place (sBCons (toB (frz (sVar 1))) (sBCons (toB (frz (sVar 6))) (sBNil))))) (sNil))))))) (sSeq (sSet 9 (sOp2 gAdd (sRd 9) (toB (frz (sLst (sCons (frz (sCall den_earliest_place (sBCons (toB (frz (sVar 3))) (sBCons (toB (frz (sOp2 gAdd (sRd 4) (sRd 7)))) (sBNil))))) (sCons (frz (sCall den_latest_place (sBCons (toB (frz (sVar 3))) (sBCons (toB (frz (sOp2 gAdd (sRd 4) (sRd 7)))) (sBNil))))) (sNil)))))))) (sSeq (sSet 10 (sOp2 gAdd (sRd 10) (toB (frz (sLst (sCons (frz (sOp2 gAdd (sRd 8) (toB (frz (sCall den_earliest_place (sBCons (toB (frz (sVar 2))) (sBCons (toB (frz (sVar 7))) (sBNil)))))))) (sCons (frz (sOp2 gAdd (sRd 4) (toB (frz (sCall den_latest_place (sBCons (toB (frz (sVar 2))) (sBCons (toB (frz (sVar 7))) (sBNil)))))))) (sNil)))))))) (sSeq (sUnp (gTp 2 (gN1 (gNm 11) (gN1 (gNm 12) (gN0)))) (frz (sOp2 gIx (sRd 1) (toB (frz (sCall den_stage_of (sBCons (toB (frz (sVar 1))) (sBCons (toB (frz (sVar 6))) (sBNil))))))))) (sSeq (sSet 9 (sOp2 gAdd (sRd 9) (toB (frz (sLst (sCons (frz (sCall den_latest_place (sBCons (toB (frz (sVar 3))) (sBCons (toB (frz (sVar 6))) (sBNil))))) (sCons (frz (sCall den_is_ahead (sBCons (toB (frz (sVar 3))) (sBCons (toB (frz (sVar 6))) (sBCons (toB (frz (sOp2 gAdd (sRd 4) (sRd 7)))) (sBNil)))))) (sNil)))))))) (sSeq (sSet 9 (sOp2 gAdd (sRd 9) (toB (frz (sLst (sCons (frz (sCall den_is_ahead (sBCons (toB (frz (sVar 3))) (sBCons (toB (frz (sOp2 gAdd (sRd 4) (sRd 7)))) (sBCons (toB (frz (sVar 6))) (sBNil)))))) (sNil))))))) (sSeq (sSet 10 (sOp2 gAdd (sRd 10) (toB (frz (sLst (sCons (frz (sOp2 gAdd (toB (frz (sCall den_latest_place (sBCons (toB (frz (sVar 1))) (sBCons (toB (frz (sVar 6))) (sBNil)))))) (toB (frz (sOp2 gMul (sRd 5) (toB (frz (sCB (g1 gIntC) (sBCons (toB (frz (sOp2 (gCmp .gt) (sRd 11) (sRd 12)))) (sBNil)))))))))) (sCons (frz (sOp2 (gEq false) (sRd 11) (sRd 12))) (sCons (frz (sC (.bl false))) (sNil))))))))) (sSeq (sIfS (sNot (sTru (toB (frz (sCall (den__law_same 12) (sBCons (toB (frz (sVar 9))) (sBCons (toB (frz (sVar 10))) (sBNil)))))))) (sRet (sC (.bl false))) (sNext)) (sSeq (sSet 13 (sCall den_how_many_paths (sBCons (toB (frz (sOp2 gAdd (sRd 1) (toB (frz (sTup (sCons (frz (sTup (sCons (frz (sC (.int 1))) (sCons (frz (sC (.int 1))) (sNil))))) (sNil)))))))) (sBCons (toB (frz (sCB (g1 gLen) (sBCons (sRd 1) (sBNil))))) (sBNil))))) (sSeq (sSet 14 (sCB gMin (sBCons (toB (frz (sLc (sItems (frz (sVar 1))) (gTp 2 (gN1 (gNm 11) (gN1 (gNm 12) (gN0)))) (fun τ => .ok true τ) (frz (sOp2 gAdd (toB (frz (sOp2 (gInt (fun _ _ => true) fun i j => i - j) (sRd 11) (sRd 12)))) (toB (frz (sC (.int 1)))))) [11, 12]))) (sBNil)))) (sSeq (sFor (sRng1 (sCons (frz (sCB (g1 gLen) (sBCons (sRd 2) (sBNil)))) (sNil))) (gNm 15) (sSeq (sSet 9 (sLst (sCons (frz (sCall den_how_many_paths (sBCons (toB (frz (sVar 3))) (sBCons (toB (frz (sOp2 gAdd (toB (frz (sCB (g1 gLen) (sBCons (sRd 1) (sBNil))))) (sRd 15)))) (sBNil))))) (sCons (frz (sCall den_fewest_lost (sBCons (toB (frz (sVar 3))) (sBCons (toB (frz (sOp2 gAdd (toB (frz (sCB (g1 gLen) (sBCons (sRd 1) (sBNil))))) (sRd 15)))) (sBNil))))) (sNil))))) (sIfS (sNot (sTru (toB (frz (sCall (den__law_same 12) (sBCons (toB (frz (sVar 9))) (sBCons (toB (frz (sLst (sCons (frz (sOp2 gMul (sRd 13) (toB (frz (sCall den_how_many_paths (sBCons (toB (frz (sVar 2))) (sBCons (toB (frz (sVar 15))) (sBNil)))))))) (sCons (frz (sCB gMin (sBCons (sRd 14) (sBCons (toB (frz (sCall den_fewest_lost (sBCons (toB (frz (sVar 2))) (sBCons (toB (frz (sVar 15))) (sBNil)))))) (sBNil))))) (sNil)))))) (sBNil)))))))) (sRet (sC (.bl false))) (sNext)))) (sRet (sC (.bl true)))))))))))))))))))
def den__law_two_right : List Sl → DR := run 13 f__law_two_right
theorem ok__law_two_right (B : Blt mg) (D__law_two_right : DefOk K mg "_law_two_right" (top 22) ["_law_urn", "_law_early", "_law_late"]) (C_how_many_units : Callee P w K mg base px "how_many_units" 1 1 den_how_many_units) (C__law_take : Callee P w K mg base px "_law_take" 2 1 den__law_take) (C_stage_of : Callee P w K mg base px "stage_of" 2 1 den_stage_of) (C_earliest_place : Callee P w K mg base px "earliest_place" 2 2 den_earliest_place) (C_latest_place : Callee P w K mg base px "latest_place" 2 2 den_latest_place) (C_is_ahead : Callee P w K mg base px "is_ahead" 3 2 den_is_ahead) (C__law_same : Callee P w K mg base px "_law_same" 2 12 (den__law_same 12)) (C_how_many_paths : Callee P w K mg base px "how_many_paths" 2 2 den_how_many_paths) (C_fewest_lost : Callee P w K mg base px "fewest_lost" 2 2 den_fewest_lost) : Callee P w K mg base px "_law_two_right" 3 13 den__law_two_right := by
  have scN := sc__law_two_right
  refine callee (k := 12) (m := 13) (g := f__law_two_right) D__law_two_right sc__law_two_right rfl fun f cdv A outer s H E hr tk po => ?_
  have hu64 := hr.units
  have hu65 : (A.deeper (envOfC "_law_two_right" (defScope (top 22)) s.heap.objs.size f cdv)).units + 65 < cLine := by have := hr.un; omega
  have hu1 : (A.deeper (envOfC "_law_two_right" (defScope (top 22)) s.heap.objs.size f cdv)).units + 1 < cLine := by have := hr.un; omega
  exact jss_cons (js_par (is := [3, 4, 5]) (xs := ["_law_both", "_law_near", "_law_far"]) rfl scN.nd rfl (by kernel_rfl) (by decide) (jax_cons (jx_bin op_addU (jb_rd (pv 1)) (jb_rd (pv 2))) (jax_cons (jx_own C_how_many_units (hr.mono (by decide)) tk rfl (jab_cons (JE.b (JX.frz (jx_var (pv 1)))) (jab_nil) rfl) (blS bl0) (by decide) rfl rfl) (jax_cons (jx_own C_how_many_units (hr.mono (by decide)) tk rfl (jab_cons (JE.b (JX.frz (jx_var (pv 2)))) (jab_nil) rfl) (blS bl0) (by decide) rfl rfl) (jax_nil) rfl) rfl) rfl) rfl rfl)
      (jss_cons (js_par (is := [6, 7]) (xs := ["_law_own", "_law_tag"]) rfl scN.nd rfl (by kernel_rfl) (by decide) (jax_cons (jx_own C__law_take (hr.mono (by decide)) tk rfl (jab_cons (jb_rd (pv 0)) (jab_cons (JE.b (JX.frz (jx_var (pv 4)))) (jab_nil) rfl) rfl) (blS (blS bl0)) (by decide) rfl rfl) (jax_cons (jx_own C__law_take (hr.mono (by decide)) tk rfl (jab_cons (jb_rd (pv 0)) (jab_cons (JE.b (JX.frz (jx_var (pv 5)))) (jab_nil) rfl) rfl) (blS (blS bl0)) (by decide) rfl rfl) (jax_nil) rfl) rfl) rfl rfl)
      (jss_cons (js_asg (ps_set (i := 8) scN.nd rfl (by first | exact Or.inl rfl | exact Or.inr rfl) (jx_callB (cr_sum2 rfl) rfl B.sum boot_sum (jab_cons (JE.b (JX.frz (jx_lc (own := [("_law_many", 11), ("_law_few", 12)]) rfl scN.nd (ji_any (JX.frz (jx_var (pv 1)))) (blkOk_by (own := [("_law_many", 11), ("_law_few", 12)]) (N := N__law_two_right) (by kernel_rfl)) (fun _ _ _ _ _ => jg_tup rfl (jgs_cons (jg_name (pg_name (i := 11) scN.nd rfl (by first | exact Or.inl rfl | exact Or.inr rfl)) (by decide)) (jgs_cons (jg_name (pg_name (i := 12) scN.nd rfl (by first | exact Or.inl rfl | exact Or.inr rfl)) (by decide)) (jgs_nil) rfl) rfl) rfl rfl) (fun _ _ _ _ _ => jts_nil) (fun _ _ _ _ _ => JX.frz (jx_var (pv 12))) (fun _ => rfl)))) (jab_nil) rfl) (by decide) (by decide) rfl rfl) (by first | rfl | exact sw_false_name | decide)) (fun _ _ _ h => h))
      (jss_cons (js_asg (ps_set (i := 9) scN.nd rfl (by first | exact Or.inl rfl | exact Or.inr rfl) (jx_lst (ja_cons (JX.frz (jx_own C_how_many_units (hr.mono (by decide)) tk rfl (jab_cons (JE.b (JX.frz (jx_var (pv 3)))) (jab_nil) rfl) (blS bl0) (by decide) rfl rfl)) (ja_cons (JX.frz (jx_own C_stage_of (hr.mono (by decide)) tk rfl (jab_cons (JE.b (JX.frz (jx_var (pv 3)))) (jab_cons (JE.b (JX.frz (jx_var (pv 6)))) (jab_nil) rfl) rfl) (blS (blS bl0)) (by decide) rfl rfl)) (ja_cons (JX.frz (jx_own C_stage_of (hr.mono (by decide)) tk rfl (jab_cons (JE.b (JX.frz (jx_var (pv 3)))) (jab_cons (JE.b (JX.frz (jx_bin op_addU (jb_rd (pv 4)) (jb_rd (pv 7))))) (jab_nil) rfl) rfl) (blS (blS bl0)) (by decide) rfl rfl)) (ja_nil) rfl) rfl) rfl)) (by first | rfl | exact sw_false_name | decide)) (fun _ _ _ h => h))
      (jss_cons (js_asg (ps_set (i := 9) scN.nd rfl (by first | exact Or.inl rfl | exact Or.inr rfl) (jx_bin op_addU (jb_rd (pv 9)) (JE.b (JX.frz (jx_lst (ja_cons (JX.frz (jx_own C_earliest_place (hr.mono (by decide)) tk rfl (jab_cons (JE.b (JX.frz (jx_var (pv 3)))) (jab_cons (JE.b (JX.frz (jx_var (pv 6)))) (jab_nil) rfl) rfl) (blS (blS bl0)) (by decide) rfl rfl)) (ja_nil) rfl))))) (by first | rfl | exact sw_false_name | decide)) (fun _ _ _ h => h))
      (jss_cons (js_asg (ps_set (i := 10) scN.nd rfl (by first | exact Or.inl rfl | exact Or.inr rfl) (jx_lst (ja_cons (JX.frz (jx_bin op_addU (jb_rd (pv 4)) (jb_rd (pv 5)))) (ja_cons (JX.frz (jx_own C_stage_of (hr.mono (by decide)) tk rfl (jab_cons (JE.b (JX.frz (jx_var (pv 1)))) (jab_cons (JE.b (JX.frz (jx_var (pv 6)))) (jab_nil) rfl) rfl) (blS (blS bl0)) (by decide) rfl rfl)) (ja_cons (JX.frz (jx_bin op_addU (JE.b (JX.frz (jx_callB cr_lenU rfl B.len boot_len (jab_cons (jb_rd (pv 1)) (jab_nil) rfl) (by decide) (by decide) rfl rfl))) (JE.b (JX.frz (jx_own C_stage_of (hr.mono (by decide)) tk rfl (jab_cons (JE.b (JX.frz (jx_var (pv 2)))) (jab_cons (JE.b (JX.frz (jx_var (pv 7)))) (jab_nil) rfl) rfl) (blS (blS bl0)) (by decide) rfl rfl))))) (ja_nil) rfl) rfl) rfl)) (by first | rfl | exact sw_false_name | decide)) (fun _ _ _ h => h))
      (jss_cons (js_asg (ps_set (i := 10) scN.nd rfl (by first | exact Or.inl rfl | exact Or.inr rfl) (jx_bin op_addU (jb_rd (pv 10)) (JE.b (JX.frz (jx_lst (ja_cons (JX.frz (jx_own C_earliest_place (hr.mono (by decide)) tk rfl (jab_cons (JE.b (JX.frz (jx_var (pv 1)))) (jab_cons (JE.b (JX.frz (jx_var (pv 6)))) (jab_nil) rfl) rfl) (blS (blS bl0)) (by decide) rfl rfl)) (ja_nil) rfl))))) (by first | rfl | exact sw_false_name | decide)) (fun _ _ _ h => h))
      (jss_cons (js_asg (ps_set (i := 9) scN.nd rfl (by first | exact Or.inl rfl | exact Or.inr rfl) (jx_bin op_addU (jb_rd (pv 9)) (JE.b (JX.frz (jx_lst (ja_cons (JX.frz (jx_own C_earliest_place (hr.mono (by decide)) tk rfl (jab_cons (JE.b (JX.frz (jx_var (pv 3)))) (jab_cons (JE.b (JX.frz (jx_bin op_addU (jb_rd (pv 4)) (jb_rd (pv 7))))) (jab_nil) rfl) rfl) (blS (blS bl0)) (by decide) rfl rfl)) (ja_cons (JX.frz (jx_own C_latest_place (hr.mono (by decide)) tk rfl (jab_cons (JE.b (JX.frz (jx_var (pv 3)))) (jab_cons (JE.b (JX.frz (jx_bin op_addU (jb_rd (pv 4)) (jb_rd (pv 7))))) (jab_nil) rfl) rfl) (blS (blS bl0)) (by decide) rfl rfl)) (ja_nil) rfl) rfl))))) (by first | rfl | exact sw_false_name | decide)) (fun _ _ _ h => h))
      (jss_cons (js_asg (ps_set (i := 10) scN.nd rfl (by first | exact Or.inl rfl | exact Or.inr rfl) (jx_bin op_addU (jb_rd (pv 10)) (JE.b (JX.frz (jx_lst (ja_cons (JX.frz (jx_bin op_addU (jb_rd (pv 8)) (JE.b (JX.frz (jx_own C_earliest_place (hr.mono (by decide)) tk rfl (jab_cons (JE.b (JX.frz (jx_var (pv 2)))) (jab_cons (JE.b (JX.frz (jx_var (pv 7)))) (jab_nil) rfl) rfl) (blS (blS bl0)) (by decide) rfl rfl))))) (ja_cons (JX.frz (jx_bin op_addU (jb_rd (pv 4)) (JE.b (JX.frz (jx_own C_latest_place (hr.mono (by decide)) tk rfl (jab_cons (JE.b (JX.frz (jx_var (pv 2)))) (jab_cons (JE.b (JX.frz (jx_var (pv 7)))) (jab_nil) rfl) rfl) (blS (blS bl0)) (by decide) rfl rfl))))) (ja_nil) rfl) rfl))))) (by first | rfl | exact sw_false_name | decide)) (fun _ _ _ h => h))
      (jss_cons (js_unp (gs := [11, 12]) (jg_tup rfl (jgs_cons (jg_name (pg_name (i := 11) scN.nd rfl (by first | exact Or.inl rfl | exact Or.inr rfl)) (by decide)) (jgs_cons (jg_name (pg_name (i := 12) scN.nd rfl (by first | exact Or.inl rfl | exact Or.inr rfl)) (by decide)) (jgs_nil) rfl) rfl) rfl rfl) (JX.frz (jx_ix (ix_U hu1) (jb_rd (pv 1)) (JE.b (JX.frz (jx_own C_stage_of (hr.mono (by decide)) tk rfl (jab_cons (JE.b (JX.frz (jx_var (pv 1)))) (jab_cons (JE.b (JX.frz (jx_var (pv 6)))) (jab_nil) rfl) rfl) (blS (blS bl0)) (by decide) rfl rfl))) (fun _ _ => rfl))) rfl rfl rfl)
      (jss_cons (js_asg (ps_set (i := 9) scN.nd rfl (by first | exact Or.inl rfl | exact Or.inr rfl) (jx_bin op_addU (jb_rd (pv 9)) (JE.b (JX.frz (jx_lst (ja_cons (JX.frz (jx_own C_latest_place (hr.mono (by decide)) tk rfl (jab_cons (JE.b (JX.frz (jx_var (pv 3)))) (jab_cons (JE.b (JX.frz (jx_var (pv 6)))) (jab_nil) rfl) rfl) (blS (blS bl0)) (by decide) rfl rfl)) (ja_cons (JX.frz (jx_own C_is_ahead (hr.mono (by decide)) tk rfl (jab_cons (JE.b (JX.frz (jx_var (pv 3)))) (jab_cons (JE.b (JX.frz (jx_var (pv 6)))) (jab_cons (JE.b (JX.frz (jx_bin op_addU (jb_rd (pv 4)) (jb_rd (pv 7))))) (jab_nil) rfl) rfl) rfl) (blS (blS (blS bl0))) (by decide) rfl rfl)) (ja_nil) rfl) rfl))))) (by first | rfl | exact sw_false_name | decide)) (fun _ _ _ h => h))
      (jss_cons (js_asg (ps_set (i := 9) scN.nd rfl (by first | exact Or.inl rfl | exact Or.inr rfl) (jx_bin op_addU (jb_rd (pv 9)) (JE.b (JX.frz (jx_lst (ja_cons (JX.frz (jx_own C_is_ahead (hr.mono (by decide)) tk rfl (jab_cons (JE.b (JX.frz (jx_var (pv 3)))) (jab_cons (JE.b (JX.frz (jx_bin op_addU (jb_rd (pv 4)) (jb_rd (pv 7))))) (jab_cons (JE.b (JX.frz (jx_var (pv 6)))) (jab_nil) rfl) rfl) rfl) (blS (blS (blS bl0))) (by decide) rfl rfl)) (ja_nil) rfl))))) (by first | rfl | exact sw_false_name | decide)) (fun _ _ _ h => h))
      (jss_cons (js_asg (ps_set (i := 10) scN.nd rfl (by first | exact Or.inl rfl | exact Or.inr rfl) (jx_bin op_addU (jb_rd (pv 10)) (JE.b (JX.frz (jx_lst (ja_cons (JX.frz (jx_bin op_addU (JE.b (JX.frz (jx_own C_latest_place (hr.mono (by decide)) tk rfl (jab_cons (JE.b (JX.frz (jx_var (pv 1)))) (jab_cons (JE.b (JX.frz (jx_var (pv 6)))) (jab_nil) rfl) rfl) (blS (blS bl0)) (by decide) rfl rfl))) (JE.b (JX.frz (jx_bin op_mulU (jb_rd (pv 5)) (JE.b (JX.frz (jx_callTy cr_intU rfl B.int boot_int (jab_cons (JE.b (JX.frz (jx_cmp (op_cmpU .gt hu64) (jb_rd (pv 11)) (jb_rd (pv 12)) rfl))) (jab_nil) rfl) (by decide) (by decide) rfl rfl)))))))) (ja_cons (JX.frz (jx_cmp (op_eqU hu64) (jb_rd (pv 11)) (jb_rd (pv 12)) rfl)) (ja_cons (JX.frz (jx_bl)) (ja_nil) rfl) rfl) rfl))))) (by first | rfl | exact sw_false_name | decide)) (fun _ _ _ h => h))
      (jss_cons (js_if (jt_not (jt_truth (JE.b (JX.frz (jx_own C__law_same (hr.mono (by decide)) tk rfl (jab_cons (JE.b (JX.frz (jx_var (pv 9)))) (jab_cons (JE.b (JX.frz (jx_var (pv 10)))) (jab_nil) rfl) rfl) (blS (blS bl0)) (by decide) rfl rfl))) (fun _ => rfl))) (jss_one (js_ret (jx_bl))) (jss_nil))
      (jss_cons (js_asg (ps_set (i := 13) scN.nd rfl (by first | exact Or.inl rfl | exact Or.inr rfl) (jx_own C_how_many_paths (hr.mono (by decide)) tk rfl (jab_cons (JE.b (JX.frz (jx_bin op_addU (jb_rd (pv 1)) (JE.b (JX.frz (jx_tup (ja_cons (JX.frz (jx_tup (ja_cons (JX.frz (jx_int)) (ja_cons (JX.frz (jx_int)) (ja_nil) rfl) rfl))) (ja_nil) rfl))))))) (jab_cons (JE.b (JX.frz (jx_callB cr_lenU rfl B.len boot_len (jab_cons (jb_rd (pv 1)) (jab_nil) rfl) (by decide) (by decide) rfl rfl))) (jab_nil) rfl) rfl) (blS (blS bl0)) (by decide) rfl rfl) (by first | rfl | exact sw_false_name | decide)) (fun _ _ _ h => h))
      (jss_cons (js_asg (ps_set (i := 14) scN.nd rfl (by first | exact Or.inl rfl | exact Or.inr rfl) (jx_callB (cr_minU rfl) rfl B.min boot_min (jab_cons (JE.b (JX.frz (jx_lc (own := [("_law_many", 11), ("_law_few", 12)]) rfl scN.nd (ji_any (JX.frz (jx_var (pv 1)))) (blkOk_by (own := [("_law_many", 11), ("_law_few", 12)]) (N := N__law_two_right) (by kernel_rfl)) (fun _ _ _ _ _ => jg_tup rfl (jgs_cons (jg_name (pg_name (i := 11) scN.nd rfl (by first | exact Or.inl rfl | exact Or.inr rfl)) (by decide)) (jgs_cons (jg_name (pg_name (i := 12) scN.nd rfl (by first | exact Or.inl rfl | exact Or.inr rfl)) (by decide)) (jgs_nil) rfl) rfl) rfl rfl) (fun _ _ _ _ _ => jts_nil) (fun _ _ _ _ _ => JX.frz (jx_bin op_addU (JE.b (JX.frz (jx_bin op_subI (jb_rd (pv 11)) (jb_rd (pv 12))))) (JE.b (JX.frz (jx_int))))) (fun _ => rfl)))) (jab_nil) rfl) (by decide) (by decide) rfl rfl) (by first | rfl | exact sw_false_name | decide)) (fun _ _ _ h => h))
      (jss_cons (js_for (gs := [15]) po rfl (ji_range1 rfl B.range (ja_cons (JX.frz (jx_callB cr_lenU rfl B.len boot_len (jab_cons (jb_rd (pv 2)) (jab_nil) rfl) (by decide) (by decide) rfl rfl)) (ja_nil) rfl) rfl) (jg_name (pg_name (i := 15) scN.nd rfl (by first | exact Or.inl rfl | exact Or.inr rfl)) (by decide)) (jss_cons (js_asg (ps_set (i := 9) scN.nd rfl (by first | exact Or.inl rfl | exact Or.inr rfl) (jx_lst (ja_cons (JX.frz (jx_own C_how_many_paths (hr.mono (by decide)) tk rfl (jab_cons (JE.b (JX.frz (jx_var (pv 3)))) (jab_cons (JE.b (JX.frz (jx_bin op_addU (JE.b (JX.frz (jx_callB cr_lenU rfl B.len boot_len (jab_cons (jb_rd (pv 1)) (jab_nil) rfl) (by decide) (by decide) rfl rfl))) (jb_rd (pv 15))))) (jab_nil) rfl) rfl) (blS (blS bl0)) (by decide) rfl rfl)) (ja_cons (JX.frz (jx_own C_fewest_lost (hr.mono (by decide)) tk rfl (jab_cons (JE.b (JX.frz (jx_var (pv 3)))) (jab_cons (JE.b (JX.frz (jx_bin op_addU (JE.b (JX.frz (jx_callB cr_lenU rfl B.len boot_len (jab_cons (jb_rd (pv 1)) (jab_nil) rfl) (by decide) (by decide) rfl rfl))) (jb_rd (pv 15))))) (jab_nil) rfl) rfl) (blS (blS bl0)) (by decide) rfl rfl)) (ja_nil) rfl) rfl)) (by first | rfl | exact sw_false_name | decide)) (fun _ _ _ h => h))
      (jss_one (js_if (jt_not (jt_truth (JE.b (JX.frz (jx_own C__law_same (hr.mono (by decide)) tk rfl (jab_cons (JE.b (JX.frz (jx_var (pv 9)))) (jab_cons (JE.b (JX.frz (jx_lst (ja_cons (JX.frz (jx_bin op_mulU (jb_rd (pv 13)) (JE.b (JX.frz (jx_own C_how_many_paths (hr.mono (by decide)) tk rfl (jab_cons (JE.b (JX.frz (jx_var (pv 2)))) (jab_cons (JE.b (JX.frz (jx_var (pv 15)))) (jab_nil) rfl) rfl) (blS (blS bl0)) (by decide) rfl rfl))))) (ja_cons (JX.frz (jx_callB (cr_minU rfl) rfl B.min boot_min (jab_cons (jb_rd (pv 14)) (jab_cons (JE.b (JX.frz (jx_own C_fewest_lost (hr.mono (by decide)) tk rfl (jab_cons (JE.b (JX.frz (jx_var (pv 2)))) (jab_cons (JE.b (JX.frz (jx_var (pv 15)))) (jab_nil) rfl) rfl) (blS (blS bl0)) (by decide) rfl rfl))) (jab_nil) rfl) rfl) (by decide) (by decide) rfl rfl)) (ja_nil) rfl) rfl)))) (jab_nil) rfl) rfl) (blS (blS bl0)) (by decide) rfl rfl))) (fun _ => rfl))) (jss_one (js_ret (jx_bl))) (jss_nil)))) (fun _ => rfl))
      (jss_one (js_ret (jx_bl)))))))))))))))))))
/-! _law_losses_right -/
def N__law_losses_right : List Str := ["_law_rows_so", "_law_k", "_law_least", "_law_near", "_law_many", "_law_few", "_law_lost_so"]
theorem sc__law_losses_right : FnScope N__law_losses_right ["_law_rows_so"] (defScope (top 23)) := ⟨rfl, rfl, rfl, by decide +kernel, rfl, by decide +kernel, by decide +kernel⟩
def f__law_losses_right : T → SR :=
  sSeq (sFor (sRng1 (sCons (frz (sCB (g1 gLen) (sBCons (sRd 0) (sBNil)))) (sNil))) (gNm 1) (sSeq (sSet 2 (sCall den_fewest_lost (sBCons (toB (frz (sVar 0))) (sBCons (toB (frz (sVar 1))) (sBNil))))) (sFor (sRng1 (sCons (frz (sOp2 gAdd (sRd 1) (toB (frz (sC (.int 1)))))) (sNil))) (gNm 3) (sSeq (sUnp (gTp 2 (gN1 (gNm 4) (gN1 (gNm 5) (gN0)))) (frz (sOp2 gIx (sRd 0) (sRd 3)))) (sSeq (sSet 6 (sOp2 gMul (toB (frz (sLst (sCons (frz (sC (.int 0))) (sNil))))) (toB (frz (sCB (g1 gLen) (sBCons (sRd 0) (sBNil))))))) (sSeq (sStore 6 (frz (sCB gMin (sBCons (sRd 4) (sBCons (toB (frz (sOp2 (gInt (fun _ _ => true) fun i j => i - j) (sRd 2) (toB (frz (sC (.int 1))))))) (sBNil))))) (frz (sVar 3))) (sSeq (sIfS (sNot (sTru (toB (frz (sCall den_is_sure (sBCons (toB (frz (sVar 0))) (sBCons (toB (frz (sCB (g1 gTuple) (sBCons (sRd 6) (sBNil))))) (sBCons (toB (frz (sVar 1))) (sBNil))))))))) (sRet (sC (.bl false))) (sNext)) (sSeq (sStore 6 (frz (sIte (sTB (sOp2 (gEq false) (sRd 3) (sRd 1))) (sVar 4) (sOp2 gAdd (toB (frz (sOp2 (gInt (fun _ _ => true) fun i j => i - j) (sRd 4) (sRd 5)))) (toB (frz (sC (.int 1))))))) (frz (sVar 3))) (sIfS (sTru (toB (frz (sCall den_is_sure (sBCons (toB (frz (sVar 0))) (sBCons (toB (frz (sCB (g1 gTuple) (sBCons (sRd 6) (sBNil))))) (sBCons (toB (frz (sVar 1))) (sBNil)))))))) (sRet (sC (.bl false))) (sNext)))))))))) (sRet (sC (.bl true)))
def den__law_losses_right : List Sl → DR := run 6 f__law_losses_right
theorem ok__law_losses_right (B : Blt mg) (D__law_losses_right : DefOk K mg "_law_losses_right" (top 23) ["_law_rows_so"]) (C_fewest_lost : Callee P w K mg base px "fewest_lost" 2 2 den_fewest_lost) (C_is_sure : Callee P w K mg base px "is_sure" 3 2 den_is_sure) : Callee P w K mg base px "_law_losses_right" 1 3 den__law_losses_right := by
  have scN := sc__law_losses_right
  refine callee (k := 2) (m := 6) (g := f__law_losses_right) D__law_losses_right sc__law_losses_right rfl fun f cdv A outer s H E hr tk po => ?_
  have hu64 := hr.units
  have hu65 : (A.deeper (envOfC "_law_losses_right" (defScope (top 23)) s.heap.objs.size f cdv)).units + 65 < cLine := by have := hr.un; omega
  have hu1 : (A.deeper (envOfC "_law_losses_right" (defScope (top 23)) s.heap.objs.size f cdv)).units + 1 < cLine := by have := hr.un; omega
  exact jss_cons (js_for (gs := [1]) po rfl (ji_range1 rfl B.range (ja_cons (JX.frz (jx_callB cr_lenU rfl B.len boot_len (jab_cons (jb_rd (pv 0)) (jab_nil) rfl) (by decide) (by decide) rfl rfl)) (ja_nil) rfl) rfl) (jg_name (pg_name (i := 1) scN.nd rfl (by first | exact Or.inl rfl | exact Or.inr rfl)) (by decide)) (jss_cons (js_asg (ps_set (i := 2) scN.nd rfl (by first | exact Or.inl rfl | exact Or.inr rfl) (jx_own C_fewest_lost (hr.mono (by decide)) tk rfl (jab_cons (JE.b (JX.frz (jx_var (pv 0)))) (jab_cons (JE.b (JX.frz (jx_var (pv 1)))) (jab_nil) rfl) rfl) (blS (blS bl0)) (by decide) rfl rfl) (by first | rfl | exact sw_false_name | decide)) (fun _ _ _ h => h))
      (jss_one (js_for (gs := [3]) po rfl (ji_range1 rfl B.range (ja_cons (JX.frz (jx_bin op_addU (jb_rd (pv 1)) (JE.b (JX.frz (jx_int))))) (ja_nil) rfl) rfl) (jg_name (pg_name (i := 3) scN.nd rfl (by first | exact Or.inl rfl | exact Or.inr rfl)) (by decide)) (jss_cons (js_unp (gs := [4, 5]) (jg_tup rfl (jgs_cons (jg_name (pg_name (i := 4) scN.nd rfl (by first | exact Or.inl rfl | exact Or.inr rfl)) (by decide)) (jgs_cons (jg_name (pg_name (i := 5) scN.nd rfl (by first | exact Or.inl rfl | exact Or.inr rfl)) (by decide)) (jgs_nil) rfl) rfl) rfl rfl) (JX.frz (jx_ix (ix_U hu1) (jb_rd (pv 0)) (jb_rd (pv 3)) (fun _ _ => rfl))) rfl rfl rfl)
      (jss_cons (js_asg (ps_set (i := 6) scN.nd rfl (by first | exact Or.inl rfl | exact Or.inr rfl) (jx_bin op_mulU (JE.b (JX.frz (jx_lst (ja_cons (JX.frz (jx_int)) (ja_nil) rfl)))) (JE.b (JX.frz (jx_callB cr_lenU rfl B.len boot_len (jab_cons (jb_rd (pv 0)) (jab_nil) rfl) (by decide) (by decide) rfl rfl)))) (by first | rfl | exact sw_false_name | decide)) (fun _ _ _ h => h))
      (jss_cons (js_store (pv 6) (JX.frz (jx_var (pv 3))) (JX.frz (jx_callB (cr_minU rfl) rfl B.min boot_min (jab_cons (jb_rd (pv 4)) (jab_cons (JE.b (JX.frz (jx_bin op_subI (jb_rd (pv 2)) (JE.b (JX.frz (jx_int)))))) (jab_nil) rfl) rfl) (by decide) (by decide) rfl rfl)) (fun _ => rfl) rfl rfl rfl)
      (jss_cons (js_if (jt_not (jt_truth (JE.b (JX.frz (jx_own C_is_sure (hr.mono (by decide)) tk rfl (jab_cons (JE.b (JX.frz (jx_var (pv 0)))) (jab_cons (JE.b (JX.frz (jx_callTy (cr_tupleU rfl) rfl B.tuple boot_tuple (jab_cons (jb_rd (pv 6)) (jab_nil) rfl) (by decide) (by decide) rfl rfl))) (jab_cons (JE.b (JX.frz (jx_var (pv 1)))) (jab_nil) rfl) rfl) rfl) (blS (blS (blS bl0))) (by decide) rfl rfl))) (fun _ => rfl))) (jss_one (js_ret (jx_bl))) (jss_nil))
      (jss_cons (js_store (pv 6) (JX.frz (jx_var (pv 3))) (JX.frz (jx_ife (jt_cmp (op_eqU hu64) (jb_rd (pv 3)) (jb_rd (pv 1)) rfl) (jx_var (pv 4)) (jx_bin op_addU (JE.b (JX.frz (jx_bin op_subI (jb_rd (pv 4)) (jb_rd (pv 5))))) (JE.b (JX.frz (jx_int)))))) (fun _ => rfl) rfl rfl rfl)
      (jss_one (js_if (jt_truth (JE.b (JX.frz (jx_own C_is_sure (hr.mono (by decide)) tk rfl (jab_cons (JE.b (JX.frz (jx_var (pv 0)))) (jab_cons (JE.b (JX.frz (jx_callTy (cr_tupleU rfl) rfl B.tuple boot_tuple (jab_cons (jb_rd (pv 6)) (jab_nil) rfl) (by decide) (by decide) rfl rfl))) (jab_cons (JE.b (JX.frz (jx_var (pv 1)))) (jab_nil) rfl) rfl) rfl) (blS (blS (blS bl0))) (by decide) rfl rfl))) (fun _ => rfl)) (jss_one (js_ret (jx_bl))) (jss_nil)))))))) (fun _ => rfl)))) (fun _ => rfl))
      (jss_one (js_ret (jx_bl)))
/-! _law_right -/
def N__law_right : List Str := ["_law_urn", "_law_turn", "_law_cap_so", "_law_early", "_law_late", "_law_durations", "_law_got", "_law_goal", "_law_own", "_law_k"]
theorem sc__law_right : FnScope N__law_right ["_law_urn"] (defScope (top 24)) := ⟨rfl, rfl, rfl, by decide +kernel, rfl, by decide +kernel, by decide +kernel⟩
def f__law_right : T → SR :=
  sSeq (sIfS (sNot (sTru (toB (frz (sCall den__law_by_hand_right sBNil))))) (sRet (sC (.bl false))) (sNext)) (sSeq (sFor (sRng1 (sCons (frz (sC (.int 8))) (sNil))) (gNm 1) (sSeq (sSet 2 (sCall den__law_of (sBCons (sRd 0) (sBCons (toB (frz (sLst (sCons (frz (sC (.int 3))) (sCons (frz (sOp2 (gInt cPow fun i j => i ^ j.toNat) (toB (frz (sC (.int 10)))) (toB (frz (sC (.int 30)))))) (sNil)))))) (sBNil))))) (sSeq (sUnp (gTp 2 (gN1 (gNm 3) (gN1 (gNm 4) (gN0)))) (frz (sTup (sCons (frz (sCall den__law_stages (sBCons (sRd 0) (sBCons (toB (frz (sVar 2))) (sBCons (toB (frz (sC (.int 4)))) (sBNil)))))) (sCons (frz (sCall den__law_stages (sBCons (sRd 0) (sBCons (toB (frz (sVar 2))) (sBCons (toB (frz (sC (.int 4)))) (sBNil)))))) (sNil)))))) (sSeq (sIfS (sOr (sNot (sTru (toB (frz (sCall den__law_two_right (sBCons (sRd 0) (sBCons (toB (frz (sVar 3))) (sBCons (toB (frz (sVar 4))) (sBNil))))))))) (sNot (sTru (toB (frz (sCall den__law_losses_right (sBCons (toB (frz (sOp2 gAdd (sRd 3) (sRd 4)))) (sBNil)))))))) (sRet (sC (.bl false))) (sNext)) (sSeq (sSet 5 (sCB (g1 gTuple) (sBCons (toB (frz (sLc (sItems (frz (sOp2 gAdd (sRd 3) (sRd 4)))) (gNm 8) (fun τ => .ok true τ) (frz (sCall den__law_take (sBCons (sRd 0) (sBCons (toB (frz (sOp2 (gInt cPow fun i j => i ^ j.toNat) (toB (frz (sC (.int 10)))) (toB (frz (sC (.int 20))))))) (sBNil))))) [8]))) (sBNil)))) (sSeq (sSet 6 (sLc (sRng1 (sCons (frz (sCB (g1 gLen) (sBCons (sRd 5) (sBNil)))) (sNil))) (gNm 9) (fun τ => .ok true τ) (frz (sCall den_time_up (sBCons (toB (frz (sOp2 gAdd (sRd 3) (sRd 4)))) (sBCons (toB (frz (sVar 5))) (sBCons (toB (frz (sVar 9))) (sBNil)))))) [9])) (sSeq (sSet 7 (sLst (sCons (frz (sOp2 gIx (sRd 5) (toB (frz (sC (.int 0)))))) (sNil)))) (sSeq (sFor (sItems (frz (sSl (sRd 5) (sSmP (frz (sC (.int 1)))) (sNoP)))) (gNm 8) (sDrop (sMeth 7 mAppend (sCons (frz (sOp2 gAdd (toB (frz (sOp2 gIx (sRd 7) (toB (frz (sNeg (frz (sC (.int 1))))))))) (sRd 8))) (sNil))))) (sIfS (sNot (sTru (toB (frz (sCall (den__law_same 12) (sBCons (toB (frz (sVar 6))) (sBCons (toB (frz (sVar 7))) (sBNil)))))))) (sRet (sC (.bl false))) (sNext)))))))))) (sRet (sC (.bl true))))
def den__law_right : List Sl → DR := run 9 f__law_right
theorem ok__law_right (B : Blt mg) (D__law_right : DefOk K mg "_law_right" (top 24) ["_law_urn"]) (C__law_by_hand_right : Callee P w K mg base px "_law_by_hand_right" 0 13 den__law_by_hand_right) (C__law_of : Callee P w K mg base px "_law_of" 2 2 den__law_of) (C__law_stages : Callee P w K mg base px "_law_stages" 3 2 den__law_stages) (C__law_two_right : Callee P w K mg base px "_law_two_right" 3 13 den__law_two_right) (C__law_losses_right : Callee P w K mg base px "_law_losses_right" 1 3 den__law_losses_right) (C__law_take : Callee P w K mg base px "_law_take" 2 1 den__law_take) (C_time_up : Callee P w K mg base px "time_up" 3 2 den_time_up) (C__law_same : Callee P w K mg base px "_law_same" 2 12 (den__law_same 12)) : Callee P w K mg base px "_law_right" 1 14 den__law_right := by
  have scN := sc__law_right
  refine callee (k := 13) (m := 9) (g := f__law_right) D__law_right sc__law_right rfl fun f cdv A outer s H E hr tk po => ?_
  have hu64 := hr.units
  have hu65 : (A.deeper (envOfC "_law_right" (defScope (top 24)) s.heap.objs.size f cdv)).units + 65 < cLine := by have := hr.un; omega
  have hu1 : (A.deeper (envOfC "_law_right" (defScope (top 24)) s.heap.objs.size f cdv)).units + 1 < cLine := by have := hr.un; omega
  exact jss_cons (js_if (jt_not (jt_truth (JE.b (JX.frz (jx_own0 C__law_by_hand_right (hr.mono (by decide)) tk rfl (by decide)))) (fun _ => rfl))) (jss_one (js_ret (jx_bl))) (jss_nil))
      (jss_cons (js_for (gs := [1]) po rfl (ji_range1 rfl B.range (ja_cons (JX.frz (jx_int)) (ja_nil) rfl) rfl) (jg_name (pg_name (i := 1) scN.nd rfl (by first | exact Or.inl rfl | exact Or.inr rfl)) (by decide)) (jss_cons (js_asg (ps_set (i := 2) scN.nd rfl (by first | exact Or.inl rfl | exact Or.inr rfl) (jx_own C__law_of (hr.mono (by decide)) tk rfl (jab_cons (jb_rd (pv 0)) (jab_cons (JE.b (JX.frz (jx_lst (ja_cons (JX.frz (jx_int)) (ja_cons (JX.frz (jx_bin op_powD (JE.b (JX.frz (jx_int))) (JE.b (JX.frz (jx_int))))) (ja_nil) rfl) rfl)))) (jab_nil) rfl) rfl) (blS (blS bl0)) (by decide) rfl rfl) (by first | rfl | exact sw_false_name | decide)) (fun _ _ _ h => h))
      (jss_cons (js_unp (gs := [3, 4]) (jg_tup rfl (jgs_cons (jg_name (pg_name (i := 3) scN.nd rfl (by first | exact Or.inl rfl | exact Or.inr rfl)) (by decide)) (jgs_cons (jg_name (pg_name (i := 4) scN.nd rfl (by first | exact Or.inl rfl | exact Or.inr rfl)) (by decide)) (jgs_nil) rfl) rfl) rfl rfl) (JX.frz (jx_tup (ja_cons (JX.frz (jx_own C__law_stages (hr.mono (by decide)) tk rfl (jab_cons (jb_rd (pv 0)) (jab_cons (JE.b (JX.frz (jx_var (pv 2)))) (jab_cons (JE.b (JX.frz (jx_int))) (jab_nil) rfl) rfl) rfl) (blS (blS (blS bl0))) (by decide) rfl rfl)) (ja_cons (JX.frz (jx_own C__law_stages (hr.mono (by decide)) tk rfl (jab_cons (jb_rd (pv 0)) (jab_cons (JE.b (JX.frz (jx_var (pv 2)))) (jab_cons (JE.b (JX.frz (jx_int))) (jab_nil) rfl) rfl) rfl) (blS (blS (blS bl0))) (by decide) rfl rfl)) (ja_nil) rfl) rfl))) rfl rfl rfl)
      (jss_cons (js_if (JW.t (jw_or (jt_not (jt_truth (JE.b (JX.frz (jx_own C__law_two_right (hr.mono (by decide)) tk rfl (jab_cons (jb_rd (pv 0)) (jab_cons (JE.b (JX.frz (jx_var (pv 3)))) (jab_cons (JE.b (JX.frz (jx_var (pv 4)))) (jab_nil) rfl) rfl) rfl) (blS (blS (blS bl0))) (by decide) rfl rfl))) (fun _ => rfl))) (jw_or1 (jt_not (jt_truth (JE.b (JX.frz (jx_own C__law_losses_right (hr.mono (by decide)) tk rfl (jab_cons (JE.b (JX.frz (jx_bin op_addU (jb_rd (pv 3)) (jb_rd (pv 4))))) (jab_nil) rfl) (blS bl0) (by decide) rfl rfl))) (fun _ => rfl)))))) (jss_one (js_ret (jx_bl))) (jss_nil))
      (jss_cons (js_asg (ps_set (i := 5) scN.nd rfl (by first | exact Or.inl rfl | exact Or.inr rfl) (jx_callTy (cr_tupleU rfl) rfl B.tuple boot_tuple (jab_cons (JE.b (JX.frz (jx_lc (own := [("_law_own", 8)]) rfl scN.nd (ji_any (JX.frz (jx_bin op_addU (jb_rd (pv 3)) (jb_rd (pv 4))))) (blkOk_by (own := [("_law_own", 8)]) (N := N__law_right) (by kernel_rfl)) (fun _ _ _ _ _ => jg_name (pg_name (i := 8) scN.nd rfl (by first | exact Or.inl rfl | exact Or.inr rfl)) (by decide)) (fun _ _ _ _ _ => jts_nil) (fun _ _ _ _ _ => JX.frz (jx_own C__law_take (hr.mono (by decide)) takes0 rfl (jab_cons (jb_rd (pv 0)) (jab_cons (JE.b (JX.frz (jx_bin op_powD (JE.b (JX.frz (jx_int))) (JE.b (JX.frz (jx_int)))))) (jab_nil) rfl) rfl) (blS (blS bl0)) (by decide) rfl rfl)) (fun _ => rfl)))) (jab_nil) rfl) (by decide) (by decide) rfl rfl) (by first | rfl | exact sw_false_name | decide)) (fun _ _ _ h => h))
      (jss_cons (js_setLc (i := 6) (own := [("_law_k", 9)]) rfl scN.nd rfl rfl (sw_true rfl rfl rfl (by decide +kernel)) (ji_range1 rfl B.range (ja_cons (JX.frz (jx_callB cr_lenU rfl B.len boot_len (jab_cons (jb_rd (pv 5)) (jab_nil) rfl) (by decide) (by decide) rfl rfl)) (ja_nil) rfl) rfl) (blkOk_by (own := [("_law_k", 9)]) (N := N__law_right) (by kernel_rfl)) (fun _ _ _ _ _ => jg_name (pg_name (i := 9) scN.nd rfl (by first | exact Or.inl rfl | exact Or.inr rfl)) (by decide)) (fun _ _ _ _ _ => jts_nil) (fun _ _ _ _ _ => JX.frz (jx_own C_time_up (hr.mono (by decide)) takes0 rfl (jab_cons (JE.b (JX.frz (jx_bin op_addU (jb_rd (pv 3)) (jb_rd (pv 4))))) (jab_cons (JE.b (JX.frz (jx_var (pv 5)))) (jab_cons (JE.b (JX.frz (jx_var (pv 9)))) (jab_nil) rfl) rfl) rfl) (blS (blS (blS bl0))) (by decide) rfl rfl)) (fun _ => rfl))
      (jss_cons (js_asg (ps_set (i := 7) scN.nd rfl (by first | exact Or.inl rfl | exact Or.inr rfl) (jx_lst (ja_cons (JX.frz (jx_ix (ix_U hu1) (jb_rd (pv 5)) (JE.b (JX.frz (jx_int))) (fun _ _ => rfl))) (ja_nil) rfl)) (by first | rfl | exact sw_false_name | decide)) (fun _ _ _ h => h))
      (jss_cons (js_for (gs := [8]) po rfl (ji_any (JX.frz (jx_sl (jb_rd (pv 5)) (jo_some (JX.frz (jx_int))) (jo_none)))) (jg_name (pg_name (i := 8) scN.nd rfl (by first | exact Or.inl rfl | exact Or.inr rfl)) (by decide)) (jss_one (js_expr (jx_meth PySem.F.slot_list_append PySem.F.type_list_append mo_append (pv 7) (ja_cons (JX.frz (jx_bin op_addU (JE.b (JX.frz (jx_ix (ix_U hu1) (jb_rd (pv 7)) (JE.b (JX.frz (jx_neg (JX.frz (jx_int))))) (fun _ _ => rfl)))) (jb_rd (pv 8)))) (ja_nil) rfl) rfl rfl rfl rfl rfl) rfl)) (fun _ => rfl))
      (jss_one (js_if (jt_not (jt_truth (JE.b (JX.frz (jx_own C__law_same (hr.mono (by decide)) tk rfl (jab_cons (JE.b (JX.frz (jx_var (pv 6)))) (jab_cons (JE.b (JX.frz (jx_var (pv 7)))) (jab_nil) rfl) rfl) (blS (blS bl0)) (by decide) rfl rfl))) (fun _ => rfl))) (jss_one (js_ret (jx_bl))) (jss_nil)))))))))) (fun _ => rfl))
      (jss_one (js_ret (jx_bl))))
/-! law -/
def N_law : List Str := ["_law_script", "_law_cells_here", "_law_k"]
theorem sc_law : FnScope N_law ["_law_script"] (defScope (top 25)) := ⟨rfl, rfl, rfl, by decide +kernel, rfl, by decide +kernel, by decide +kernel⟩
def f_law : T → SR :=
  sSeq (sSet 1 (sCall den__law_cells (sBCons (toB (frz (sVar 0))) (sBCons (toB (frz (sC (.int 3)))) (sBNil))))) (sRet (sCB (g1 gAll) (sBCons (toB (frz (sLc (sRng1 (sCons (frz (sCB (g1 gLen) (sBCons (sRd 1) (sBNil)))) (sNil))) (gNm 2) (fun τ => .ok true τ) (frz (sCallF den__law_right (sCall den__law_box (sBCons (toB (frz (sVar 1))) (sBCons (toB (frz (sVar 2))) (sBNil)))))) [2]))) (sBNil))))
def den_law : List Sl → DR := run 2 f_law
theorem ok_law {f : Addr} {fd : FuncData} (B : Blt mg) (F_law : FunD K "law" "law" (defArgs (top 25)) (defBody (top 25)) (defScope (top 25)) [] [] f fd) (C__law_cells : Callee P w K mg base px "_law_cells" 2 1 den__law_cells) (C__law_right : Callee P w K mg base px "_law_right" 1 14 den__law_right) (C__law_box : Callee P w K mg base px "_law_box" 2 1 den__law_box) : FnOk P w K mg base (L2.CX P w) 15 f fd ["_law_script"] (spOf K px 1 den_law) := by
  have scN := sc_law
  refine fn_run (k := 14) (m := 2) (g := f_law) F_law sc_law rfl fun cdv A outer s H E hr tk po => ?_
  have hu64 := hr.units
  have hu65 : (A.deeper (envOfC "law" (defScope (top 25)) s.heap.objs.size f cdv)).units + 65 < cLine := by have := hr.un; omega
  have hu1 : (A.deeper (envOfC "law" (defScope (top 25)) s.heap.objs.size f cdv)).units + 1 < cLine := by have := hr.un; omega
  exact jss_cons (js_asg (ps_set (i := 1) scN.nd rfl (by first | exact Or.inl rfl | exact Or.inr rfl) (jx_own C__law_cells (hr.mono (by decide)) tk rfl (jab_cons (JE.b (JX.frz (jx_var (pv 0)))) (jab_cons (JE.b (JX.frz (jx_int))) (jab_nil) rfl) rfl) (blS (blS bl0)) (by decide) rfl rfl) (by first | rfl | exact sw_false_name | decide)) (fun _ _ _ h => h))
      (jss_one (js_ret (jx_callB (cr_allU rfl) rfl B.all boot_all (jab_cons (JE.b (JX.frz (jx_lc (own := [("_law_k", 2)]) rfl scN.nd (ji_range1 rfl B.range (ja_cons (JX.frz (jx_callB cr_lenU rfl B.len boot_len (jab_cons (jb_rd (pv 1)) (jab_nil) rfl) (by decide) (by decide) rfl rfl)) (ja_nil) rfl) rfl) (blkOk_by (own := [("_law_k", 2)]) (N := N_law) (by kernel_rfl)) (fun _ _ _ _ _ => jg_name (pg_name (i := 2) scN.nd rfl (by first | exact Or.inl rfl | exact Or.inr rfl)) (by decide)) (fun _ _ _ _ _ => jts_nil) (fun _ _ _ _ _ => JX.frz (jx_ownF C__law_right (hr.mono (by decide)) takes0 rfl (jx_own C__law_box (hr.mono (by decide)) takes0 rfl (jab_cons (JE.b (JX.frz (jx_var (pv 1)))) (jab_cons (JE.b (JX.frz (jx_var (pv 2)))) (jab_nil) rfl) rfl) (blS (blS bl0)) (by decide) rfl rfl) (by decide) rfl)) (fun _ => rfl)))) (jab_nil) rfl) (by decide) (by decide) rfl rfl)))
end
end U
end

section
set_option Elab.async false
set_option linter.all false
set_option maxRecDepth 100000
namespace U
open PySem PySem.Spec PyProof.Rows L2
/-! ### the urn -/
theorem at3 : (∀ x y z : D, atI [x, y, z] 0 = some x) ∧ (∀ x y z : D, atI [x, y, z] 1 = some y) ∧ (∀ x y z : D, atI [x, y, z] 2 = some z) ∧ (∀ x y z : D, ixN [x, y, z].length 0 = some 0) ∧ (∀ x y z : D, ixN [x, y, z].length 1 = some 1) ∧ (∀ x y z : D, ixN [x, y, z].length 2 = some 2) := by
  repeat' apply And.intro
  all_goals (intros; rfl)
theorem log2_few {n : Nat} (h : n < 2 ^ 200) : n.log2 < 9000 := by
  by_cases h0 : n = 0
  · subst h0; decide
  · have := (Nat.log2_lt h0).mpr h
    omega
theorem cMul_r {i j : Int} (h : j.natAbs < 2 ^ 64) : cMul i j = true := by unfold cMul; simp [h]
theorem cMul_l {i j : Int} (h : i.natAbs < 2 ^ 64) : cMul i j = true := by unfold cMul; simp [h]
def Urn (k : Nat) (u : List D) : Prop := ∃ a b c : Int, u = [.int a, .int b, .int c] ∧ 0 ≤ a ∧ 0 ≤ b ∧ 0 ≤ c ∧ c ≤ k
theorem Urn.mono {k k' : Nat} {u : List D} (h : Urn k u) (le : k ≤ k') : Urn k' u := by
  obtain ⟨a, b, c, e, h1, h2, h3, h4⟩ := h
  exact ⟨a, b, c, e, h1, h2, h3, by omega⟩
theorem take_ok {k : Nat} {u : List D} {n : Int} (hu : Urn k u) (hk : k < 2 ^ 60) (hn : 0 < n) (hl : n.natAbs.log2 < 9000) :
    ∃ d u', 0 ≤ d ∧ d < n ∧ Urn (k + 1) u' ∧ den__law_take [.io (.l u), .val (.int n)] = .ok (.d (.int d)) [.io (.l u'), .no] := by
  obtain ⟨a, b, c, rfl, h1, h2, h3, h4⟩ := hu
  by_cases h : 0 < a
  · refine ⟨a % n, [.int (a / n), .int b, .int c], Int.emod_nonneg _ (by omega), Int.emod_lt_of_pos _ hn, ⟨a / n, b, c, rfl, Int.ediv_nonneg h1 (by omega), h2, h3, by omega⟩, ?_⟩
    simp only [den__law_take, f__law_take, evl, evl2, evl3, evl4, prim, slotsE, at3, h, hn, hl, decide_true, if_true, cDiv, Bool.and_true, Bool.and_self]
  · have m1 : ∀ x : Int, cMul 48271 x = true := fun x => cMul_l (by decide)
    have m2 : ∀ x : Int, cMul x (39373 + (c + 1)) = true := fun x => cMul_r (by omega)
    have m3 : ∀ x y : Int, cMul x (y % 40009 + 7) = true := fun x y => cMul_r (by
      have := Int.emod_nonneg y (show (40009 : Int) ≠ 0 by decide)
      have := Int.emod_lt_of_pos y (show (0 : Int) < 40009 by decide)
      omega)
    have m4 : ∀ x : Int, cMul x 48271 = true := fun x => cMul_r (by decide)
    have d1 : cDiv 0 1000003 = true := by decide
    have d2 : ∀ x : Int, cDiv x 1000003 = true := fun x => by unfold cDiv; decide
    have d3 : ∀ x : Int, cDiv x 64 = true := fun x => by unfold cDiv; decide
    refine ⟨_, [.int a, .int b, .int (c + 1)], ?_, ?_, ⟨a, b, c + 1, rfl, h1, h2, by omega, by omega⟩, by
      simp only [den__law_take, f__law_take, evl, evl2, evl3, evl4, prim, slotsE, at3, h, hn, hl, decide_true, decide_false, if_true, if_false, Bool.false_eq_true, m1, m2, m3, m4, d2, d3, show decide ((0 : Int) < 2147483647) = true from by decide, show decide ((0 : Int) < 40009) = true from by decide, show decide ((0 : Int) < 2147483629) = true from by decide, show decide ((0 : Int) < 2147483587) = true from by decide]
      rfl⟩
    · exact Int.emod_nonneg _ (by omega)
    · exact Int.emod_lt_of_pos _ hn
/-! ### the comparison -/
theorem sameTup {n : Nat} {dself : List Sl → DR} {xs : List D} {d : D} (hd : d = .tup xs ∨ d = .lst xs) (hl : xs.length < lim) (ih : ∀ x ∈ xs, dself [.val x, .val x] = .ok (.d (.bl true)) [.no, .no]) :
    run 2 (f__law_same dself) [.val d, .val d] = .ok (.d (.bl true)) [.no, .no] := by
  have comp : ∀ el : T → Rs D, el = frz (sCall dself (sBCons (toB (frz (sVar 2))) (sBCons (toB (frz (sVar 3))) sBNil))) →
      compL (turnC (gTp 2 (gN1 (gNm 2) (gN1 (gNm 3) gN0))) (fun τ => .ok true τ) el [2, 3]) (zipD xs xs) [.val d, .val d, .no, .no] [] = .ok ((zipD xs xs).map fun _ => .bl true) [.val d, .val d, .no, .no] := fun el hel => by
    rw [compL_pure (h := fun _ => .bl true) (zipD xs xs) [] (fun z hz => ?_) (by rw [zipD_len, List.length_nil]; omega)]
    · rfl
    · obtain ⟨x, hx, rfl⟩ := zipD_self hz
      subst hel
      have e := ih x hx
      simp only [evl, evl2, evl3, evl4, prim, slotsE, e, List.length_cons, List.length_nil, if_true, List.nodup_nil]
  have hall : gAll (.lst ((zipD xs xs).map fun _ => D.bl true)) = some (.d (.bl true)) := gAll_true fun d hd => by
    obtain ⟨_, _, e⟩ := List.mem_map.mp hd
    exact e.symm
  have hc := comp _ rfl
  rcases hd with rfl | rfl
  · simp only [f__law_same, evl, evl2, evl3, evl4, prim, slotsE, tyE, isE, eqE, bne_self_eq_false, Bool.false_eq_true, if_false, if_true, hc, hall, beq_self_eq_true, Bool.false_bne]
  · simp only [f__law_same, evl, evl2, evl3, evl4, prim, slotsE, tyE, isE, eqE, bne_self_eq_false, Bool.false_eq_true, if_false, if_true, hc, hall, beq_self_eq_true, Bool.false_bne]
theorem same_self : ∀ (n : Nat) (d : D), n ≤ 60 → okS n d = true → den__law_same (n + 1) [.val d, .val d] = .ok (.d (.bl true)) [.no, .no] := by
  intro n
  induction n with
  | zero =>
    intro d hn h
    show run 2 (f__law_same (den__law_same 0)) [.val d, .val d] = _
    cases d <;> first | (simp [okS] at h; done) | skip
    · simp only [f__law_same, evl, evl2, evl3, evl4, prim, slotsE, tyE, isE, eqE, bne_self_eq_false, Bool.false_eq_true, if_false, if_true, beq_self_eq_true, Bool.false_bne]
    · simp only [f__law_same, evl, evl2, evl3, evl4, prim, slotsE, tyE, isE, eqE, bne_self_eq_false, Bool.false_eq_true, if_false, if_true, beq_self_eq_true, Bool.false_bne]
    · simp only [f__law_same, evl, evl2, evl3, evl4, prim, slotsE, tyE, isE, eqE, bne_self_eq_false, Bool.false_eq_true, if_false, if_true, beq_self_eq_true, Bool.false_bne, Bool.not_false]
    · rename_i x
      have e : gEq false (.str x) (.str x) = some (.d (.bl true)) := by
        have h1 : (D.str x).ok 60 = true := by simpa [okS, D.ok] using h
        unfold gEq
        rw [h1]
        simp [D.eqb]
      simp only [f__law_same, evl, evl2, evl3, evl4, prim, slotsE, tyE, isE, eqE, bne_self_eq_false, Bool.false_eq_true, if_false, if_true, beq_self_eq_true, Bool.false_bne, Bool.not_false, e]
  | succ n ih =>
    intro d hn h
    show run 2 (f__law_same (den__law_same (n + 1))) [.val d, .val d] = _
    cases d with
    | tup xs =>
      unfold okS at h
      simp only [Bool.and_eq_true, decide_eq_true_eq] at h
      exact sameTup (n := n) (.inl rfl) h.1 fun x hx => ih x (by omega) (List.all_eq_true.mp h.2 x hx)
    | lst xs =>
      unfold okS at h
      simp only [Bool.and_eq_true, decide_eq_true_eq] at h
      exact sameTup (n := n) (.inr rfl) h.1 fun x hx => ih x (by omega) (List.all_eq_true.mp h.2 x hx)
    | non => simp only [f__law_same, evl, evl2, evl3, evl4, prim, slotsE, tyE, isE, eqE, bne_self_eq_false, Bool.false_eq_true, if_false, if_true, beq_self_eq_true, Bool.false_bne]
    | bl b => simp only [f__law_same, evl, evl2, evl3, evl4, prim, slotsE, tyE, isE, eqE, bne_self_eq_false, Bool.false_eq_true, if_false, if_true, beq_self_eq_true, Bool.false_bne]
    | int i => simp only [f__law_same, evl, evl2, evl3, evl4, prim, slotsE, tyE, isE, eqE, bne_self_eq_false, Bool.false_eq_true, if_false, if_true, beq_self_eq_true, Bool.false_bne, Bool.not_false]
    | str x =>
      have e : gEq false (.str x) (.str x) = some (.d (.bl true)) := by
        have h1 : (D.str x).ok 60 = true := by simpa [okS, D.ok] using h
        unfold gEq
        rw [h1]
        simp [D.eqb]
      simp only [f__law_same, evl, evl2, evl3, evl4, prim, slotsE, tyE, isE, eqE, bne_self_eq_false, Bool.false_eq_true, if_false, if_true, beq_self_eq_true, Bool.false_bne, Bool.not_false, e]
    | _ => simp [okS] at h
theorem same12 {d : D} (h : okS 11 d = true) : den__law_same 12 [.val d, .val d] = .ok (.d (.bl true)) [.no, .no] := same_self 11 d (by decide) h
/-! ### the cells and the box -/
theorem at_nat {α : Type} {xs : List α} {i : Nat} (h : i < xs.length) : atI xs (i : Int) = some xs[i] := by
  unfold atI ixN
  have h0 : (0 : Int) ≤ (i : Int) := by omega
  have h1 : (i : Int) < (xs.length : Int) := by omega
  rw [if_pos h0, if_pos h1]
  simp [h]
theorem ixN_nat {n i : Nat} (h : i < n) : ixN n (i : Int) = some i := by
  unfold ixN
  rw [if_pos (by omega), if_pos (by omega)]
  simp
theorem cells_loop : ∀ (es : List Int) (k : Nat) (cs : List Int) (σ3 σ4 σ5 : Sl) (ns : List Int), k + es.length ≤ 100 → cs.length = 3 → σ3.free = true → σ4.free = true → σ5.free = true →
    ∃ (cs' : List Int) (s3 s4 s5 : Sl), cs'.length = 3 ∧ forL (sBody (gTp 2 (gN1 (gNm 3) (gN1 (gNm 4) gN0))) (sSeq (sSet 5 (sOp2 (gInt (fun _ j => decide (0 < j)) fun i j => i % j) (toB (frz (sCB (g1 gIntC) (sBCons (sRd 3) sBNil)))) (sRd 1))) (sStore 2 (frz (sOp2 gAdd (toB (frz (sOp2 gIx (sRd 2) (sRd 5)))) (toB (frz (sOp2 gMul (sRd 4) (toB (frz (sOp2 gAdd (sRd 3) (toB (frz (sC (.int 2)))))))))))) (frz (sVar 5)))))
      (numb k (es.map D.int)) [.val (.scr ns), .val (.int 3), .own (.l (cs.map D.int)), σ3, σ4, σ5] = .nx [.val (.scr ns), .val (.int 3), .own (.l (cs'.map D.int)), s3, s4, s5]
  | [], k, cs, σ3, σ4, σ5, ns, _, hc, _, _, _ => ⟨cs, σ3, σ4, σ5, hc, rfl⟩
  | e :: es, k, cs, σ3, σ4, σ5, ns, hk, hc, f3, f4, f5 => by
    have hr : (k : Int) % 3 = ((k % 3 : Nat) : Int) := by omega
    have hlt : k % 3 < cs.length := by omega
    have ha : atI (cs.map D.int) ((k : Int) % 3) = some (.int cs[k % 3]) := by
      rw [hr, at_nat (by simpa using hlt)]; simp
    have hi : ixN (cs.map D.int).length ((k : Int) % 3) = some (k % 3) := by rw [hr]; exact ixN_nat (by simpa using hlt)
    have hm : cMul e ((k : Int) + 2) = true := cMul_r (by
      rw [List.length_cons] at hk
      omega)
    obtain ⟨cs', s3, s4, s5, h1, h2⟩ := cells_loop es (k + 1) (cs.set (k % 3) (cs[k % 3] + e * ((k : Int) + 2))) (.val (.int k)) (.val (.int e)) (.val (.int ((k : Int) % 3))) ns (by rw [List.length_cons] at hk; omega) (by simpa using hc) rfl rfl rfl
    refine ⟨cs', s3, s4, s5, h1, ?_⟩
    rw [List.map_cons]
    show forL _ (.tup [.int (k : Int), .int e] :: numb (k + 1) (es.map D.int)) _ = _
    rw [forL_step (τ1 := [.val (.scr ns), .val (.int 3), .own (.l ((cs.set (k % 3) (cs[k % 3] + e * ((k : Int) + 2))).map D.int)), .val (.int k), .val (.int e), .val (.int ((k : Int) % 3))])]
    · exact h2
    · simp only [evl, evl2, evl3, evl4, prim, slotsE, f3, f4, f5, if_true, ha, hi, hm, List.length_cons, List.length_nil, show decide ((0 : Int) < 3) = true from by decide, List.map_set]
theorem cells_ok (ns : List Int) (hn : ns.length ≤ 63) : ∃ cs : List Int, 1 ≤ cs.length ∧ cs.length ≤ 3 ∧ den__law_cells [.val (.scr ns), .val (.int 3)] = .ok (.o (.l (cs.map D.int))) [.no, .no] := by
  have c1 : cutA ns none (some 3) = ns.take 3 := by
    unfold cutA
    have : HT.sIx ns.length ns.length (some 3) = min 3 ns.length := HT.sIx_nat ns.length ns.length 3
    rw [this, HT.sIx_none, List.drop_zero, Nat.sub_zero]
    rw [Nat.min_def]; split
    · rfl
    · rw [List.take_of_length_le (by omega), List.take_of_length_le (by omega)]
  have c2 : ∃ es : List Int, es.length ≤ 60 ∧ (ns.length ≤ 3 → es = []) ∧ cutA ns (some 3) (some 63) = es := by
    refine ⟨_, ?_, ?_, rfl⟩
    · unfold cutA
      rw [show HT.sIx ns.length 0 (some 3) = min 3 ns.length from HT.sIx_nat ns.length 0 3, show HT.sIx ns.length ns.length (some 63) = min 63 ns.length from HT.sIx_nat ns.length ns.length 63]
      simp only [List.length_take, List.length_drop]
      omega
    · intro h
      unfold cutA
      rw [show HT.sIx ns.length 0 (some 3) = min 3 ns.length from HT.sIx_nat ns.length 0 3]
      rw [List.drop_of_length_le (by omega)]
      simp
  obtain ⟨es, h60, hnil, c2⟩ := c2
  by_cases h3 : ns.length ≤ 3
  · have := hnil h3
    subst this
    cases ns with
    | nil =>
      refine ⟨[0], by decide, by decide, ?_⟩
      simp only [den__law_cells, f__law_cells, evl, evl2, evl3, evl4, prim, slotsE, c1, c2, List.take_nil, List.map_nil, List.isEmpty_nil, Bool.not_true, List.length_cons, List.length_nil, if_true, numb, forL, show (0 + 1 ≤ lim) = True from by simp [lim], List.map_cons]
    | cons a as =>
      refine ⟨(a :: as).take 3, by simp, by simp; omega, ?_⟩
      have hne : (((a :: as).take 3).map D.int).isEmpty = false := by simp
      simp only [den__law_cells, f__law_cells, evl, evl2, evl3, evl4, prim, slotsE, c1, c2, List.map_nil, hne, Bool.not_false, List.length_cons, List.length_nil, if_true, numb, forL]
  · have hne : ((ns.take 3).map D.int).isEmpty = false := by
      cases ns with
      | nil => simp at h3
      | cons a as => simp
    obtain ⟨cs', s3, s4, s5, h1, h2⟩ := cells_loop es 0 (ns.take 3) .no .no .no ns (by omega) (by rw [List.length_take]; omega) rfl rfl rfl
    refine ⟨cs', by omega, by omega, ?_⟩
    simp only [den__law_cells, f__law_cells, evl, evl2, evl3, evl4, prim, slotsE, c1, c2, hne, Bool.not_false, if_true, h2]
theorem box_ok (cs : List Int) (k : Nat) (hk : k < cs.length) (hl : cs.length ≤ 3) : ∃ u, Urn 0 u ∧ den__law_box [.val (.lst (cs.map D.int)), .val (.int k)] = .ok (.o (.l u)) [.no, .no] := by
  have hlt : decide ((k : Int) < ((cs.map D.int).length : Int)) = true := by simpa using hk
  have ha : atI (cs.map D.int) (k : Int) = some (.int cs[k]) := by rw [at_nat (by simpa using hk)]; simp
  have m1 : ∀ x : Int, cMul 39373 x = true := fun x => cMul_l (by decide)
  have m2 : ∀ (x : Int) (b : Bool), cMul x (if b then 1 else 0) = true := fun x b => cMul_r (by cases b <;> decide)
  have p1 : cPow 10 18 = true := by decide
  generalize hz : cs[k] = z at ha
  refine ⟨_, ⟨_, _, _, rfl, ?_, ?_, ?_, ?_⟩, by
    simp only [den__law_box, f__law_box, evl, evl2, evl3, evl4, prim, slotsE, hlt, ha, if_true, m1, m2, p1, List.length_cons, List.length_nil, show decide ((0 : Int) < 2305843009213693951) = true from by decide, show (0 + 1 + 1 + 1 ≤ lim) = True from by simp [lim]]
    rfl⟩
  · refine Int.mul_nonneg (by split <;> omega) (by split <;> omega)
  · have := Int.emod_nonneg z (show (2305843009213693951 : Int) ≠ 0 by decide)
    omega
  · decide
  · decide
theorem of_ok {k : Nat} {u ds : List D} (hu : Urn k u) (hk : k < 2 ^ 60) (hd : 0 < ds.length) (hl : ds.length < 1000) : ∃ d u', d ∈ ds ∧ Urn (k + 1) u' ∧ den__law_of [.io (.l u), .val (.lst ds)] = .ok (.d d) [.io (.l u'), .no] := by
  obtain ⟨i, u', h1, h2, h3, h4⟩ := take_ok (n := (ds.length : Int)) hu hk (by omega) (by
    have : (ds.length : Int).natAbs = ds.length := by omega
    rw [this]
    exact log2_few (by omega))
  obtain ⟨j, rfl⟩ : ∃ j : Nat, i = (j : Int) := ⟨i.toNat, by omega⟩
  have hj : j < ds.length := by omega
  refine ⟨ds[j], u', List.getElem_mem _, h3, ?_⟩
  simp only [den__law_of, f__law_of, evl, evl2, evl3, evl4, prim, slotsE, h4, at_nat hj, List.nodup_cons, List.not_mem_nil, not_false_eq_true, List.nodup_nil, and_self, if_true]
end U
end

section
set_option Elab.async false
set_option linter.all false
set_option maxRecDepth 100000
namespace U
open PySem PySem.Spec PyProof.Rows L2
abbrev Row := Int × Int
def pD (p : Row) : D := .tup [.int p.1, .int p.2]
def rD (ss : List Row) : D := .tup (ss.map pD)
theorem cutA_to {α : Type} (xs : List α) (k : Nat) : cutA xs none (some (k : Int)) = xs.take k := by
  unfold cutA
  rw [HT.sIx_nat, HT.sIx_none, List.drop_zero, Nat.sub_zero]
  rw [Nat.min_def]
  split
  · rfl
  · rw [List.take_of_length_le (Nat.le_refl _), List.take_of_length_le (by omega)]
theorem cutA_from {α : Type} (xs : List α) (k : Nat) : cutA xs (some (k : Int)) none = xs.drop k := by
  unfold cutA
  rw [HT.sIx_nat, HT.sIx_none]
  rw [List.take_of_length_le (by rw [List.length_drop]; omega)]
  rw [Nat.min_def]
  split
  · rfl
  · rw [List.drop_of_length_le (Nat.le_refl _), List.drop_of_length_le (by omega)]
theorem compL_over {α : Type} {f : D → T → Rs (Option D)} {g h : α → D} {τ : T} (xs : List α) (hf : ∀ x ∈ xs, f (g x) τ = .ok (some (h x)) τ) (hl : xs.length ≤ lim) : compL f (xs.map g) τ [] = .ok (xs.map h) τ := by
  have key : ∀ (xs : List α) (acc : List D), (∀ x ∈ xs, f (g x) τ = .ok (some (h x)) τ) → acc.length + xs.length ≤ lim → compL f (xs.map g) τ acc = .ok (acc ++ xs.map h) τ := fun xs => by
    induction xs with
    | nil => intro acc _ _; simp [compL]
    | cons x xs ih =>
      intro acc hf hl
      rw [List.length_cons] at hl
      have hlt : acc.length < lim := by omega
      show (match f (g x) τ with
        | .ok (some z) τ1 => if acc.length < lim then compL f (xs.map g) τ1 (acc ++ [z]) else .stuck
        | .ok none τ1 => compL f (xs.map g) τ1 acc
        | _ => .stuck) = _
      rw [hf x (List.mem_cons_self ..)]
      show (if acc.length < lim then compL f (xs.map g) τ (acc ++ [h x]) else .stuck) = _
      rw [if_pos hlt, ih (acc ++ [h x]) (fun z hz => hf z (List.mem_cons_of_mem _ hz)) (by rw [List.length_append, List.length_singleton]; omega)]
      simp
  rw [key xs [] hf (by rw [List.length_nil]; omega)]
  rfl
theorem lim_big {n : Nat} (h : n ≤ 1000) : n ≤ lim := Nat.le_trans h (by decide)
theorem check_ok {ss : List Row} {k : Nat} (h : k < ss.length) : den_check [.val (rD ss), .val (.int k)] = .ok (.d .non) [.no, .no] := by
  have h1 : decide ((k : Int) < 0) = false := by simp
  have h2 : decide ((k : Int) < ((ss.map pD).length : Int)) = true := by simpa using h
  simp only [den_check, f_check, rD, evl, evl2, evl3, evl4, prim, slotsE, h1, h2, Bool.not_false, Bool.not_true, if_true, if_false, Bool.false_eq_true]
def many (ss : List Row) : Int := (ss.map (·.1)).sum
def few (ss : List Row) : Int := (ss.map (·.2)).sum
theorem units_ok {ss : List Row} (h : ss.length ≤ 1000) : den_how_many_units [.val (rD ss)] = .ok (.d (.int (many ss))) [.no] := by
  have hc : compL (turnC (gTp 2 (gN1 (gNm 1) (gN1 (gNm 2) gN0))) (fun τ => .ok true τ) (frz (sVar 1)) [1, 2]) (ss.map pD) [.val (rD ss), .no, .no] [] = .ok (ss.map fun p => .int p.1) [.val (rD ss), .no, .no] :=
    compL_over ss (fun p _ => by simp only [pD, evl, evl2, evl3, evl4, prim, slotsE, List.length_cons, List.length_nil, if_true]) (lim_big h)
  have hs : gSum2 (.lst (ss.map fun p => .int p.1)) = some (.d (.int (many ss))) := gSum_map _ ss
  have e : (rD ss).items = some (ss.map pD) := rfl
  simp only [den_how_many_units, f_how_many_units, evl, evl2, evl3, evl4, prim, slotsE, e, hc, hs]
def sof : List Row → Int → Option Nat
  | [], _ => none
  | p :: ss, r => if 0 ≤ r ∧ r < p.1 then some 0 else (sof ss (r - p.1)).map (· + 1)
theorem stage_loop : ∀ (ss : List Row) (j k : Nat) (r : Int) (v0 v1 : D) (s3 s4 s5 : Sl), s3.free = true → s4.free = true → s5.free = true → sof ss r = some k → ∃ τ', 
    forL (sBody (gTp 2 (gN1 (gNm 3) (gN1 (gTp 2 (gN1 (gNm 4) (gN1 (gNm 5) gN0))) gN0))) (sSeq (sIfS (sTB (sChain (gCmp .le) (gCmp .lt) (toB (frz (sC (.int 0)))) (sRd 2) (sRd 4))) (sRetV 3) sNext) (sSet 2 (sOp2 (gInt (fun _ _ => true) fun i j => i - j) (sRd 2) (sRd 4))))) (numb j (ss.map pD)) [.val v0, .val v1, .val (.int r), s3, s4, s5]
      = .rt (.d (.int ((j + k : Nat) : Int))) (.val v0 :: .val v1 :: τ')
  | [], j, k, r, v0, v1, s3, s4, s5, _, _, _, h => by cases h
  | p :: ss, j, k, r, v0, v1, s3, s4, s5, f3, f4, f5, h => by
    unfold sof at h
    rw [List.map_cons]
    by_cases c : 0 ≤ r ∧ r < p.1
    · rw [if_pos c] at h
      cases h
      have h1 : decide (r < 0) = false := by simp; omega
      have h2 : decide (r < p.1) = true := by simp; omega
      refine ⟨[.val (.int r), .val (.int j), .val (.int p.1), .val (.int p.2)], ?_⟩
      show forL _ (.tup [.int (j : Int), pD p] :: numb (j + 1) (ss.map pD)) _ = _
      refine forL_ret ?_
      simp only [pD, evl, evl2, evl3, evl4, prim, slotsE, f3, f4, f5, if_true, List.length_cons, List.length_nil, h1, h2, Bool.not_false, Nat.add_zero]
    · rw [if_neg c] at h
      obtain ⟨k', e, rfl⟩ := map_some h
      obtain ⟨τ', ih⟩ := stage_loop ss (j + 1) k' (r - p.1) v0 v1 (.val (.int j)) (.val (.int p.1)) (.val (.int p.2)) rfl rfl rfl e
      refine ⟨τ', ?_⟩
      show forL _ (.tup [.int (j : Int), pD p] :: numb (j + 1) (ss.map pD)) _ = _
      rw [forL_step (τ1 := [.val v0, .val v1, .val (.int (r - p.1)), .val (.int j), .val (.int p.1), .val (.int p.2)])]
      · rw [ih]
        have : j + 1 + k' = j + (k' + 1) := by omega
        rw [this]
      · by_cases c1 : r < 0
        · simp only [pD, evl, evl2, evl3, evl4, prim, slotsE, f3, f4, f5, if_true, List.length_cons, List.length_nil, c1, decide_true, Bool.not_true, Bool.false_eq_true, if_false]
        · have c2 : ¬ r < p.1 := by omega
          simp only [pD, evl, evl2, evl3, evl4, prim, slotsE, f3, f4, f5, if_true, List.length_cons, List.length_nil, c1, c2, decide_false, Bool.not_false, Bool.false_eq_true, if_false]
theorem stage_ok {ss : List Row} {u : Int} {k : Nat} (h : sof ss u = some k) : den_stage_of [.val (rD ss), .val (.int u)] = .ok (.d (.int k)) [.no, .no] := by
  obtain ⟨τ', e⟩ := stage_loop ss 0 k u (rD ss) (.int u) .no .no .no rfl rfl rfl h
  rw [Nat.zero_add] at e
  have e' : numb 0 (ss.map pD) = numb 0 (ss.map pD) := rfl
  simp only [den_stage_of, f_stage_of, evl, evl2, evl3, evl4, prim, slotsE, if_true]
  simp only [rD, evl, evl2, evl3, evl4, prim, slotsE]
  rw [show D.tup (ss.map pD) = rD ss from rfl, e]
  simp only [evl, evl4, slotsE]
theorem sof_lt : ∀ {ss : List Row} {r : Int} {k : Nat}, sof ss r = some k → k < ss.length
  | [], r, k, h => by cases h
  | p :: ss, r, k, h => by
    unfold sof at h
    split at h
    · cases h; simp
    · obtain ⟨k', e, rfl⟩ := map_some h
      have := sof_lt e
      simp; omega
end U
end

section
set_option Elab.async false
set_option linter.all false
set_option maxRecDepth 100000
namespace U
open PySem PySem.Spec PyProof.Rows L2
theorem nd0 : ([] : List Nat).Nodup = True := by simp
theorem cut_map_to (ss : List Row) (k : Nat) : cutA (ss.map pD) none (some (k : Int)) = (ss.take k).map pD := by rw [cutA_to, List.map_take]
theorem cut_map_from (ss : List Row) (k : Nat) : cutA (ss.map pD) (some (k : Int)) none = (ss.drop k).map pD := by rw [cutA_from, List.map_drop]
theorem early_ok {ss : List Row} {u : Int} {k : Nat} (h : sof ss u = some k) (hl : ss.length ≤ 1000) : den_earliest_place [.val (rD ss), .val (.int u)] = .ok (.d (.int (few (ss.take k)))) [.no, .no] := by
  have hs := stage_ok h
  have hc : compL (turnC (gTp 2 (gN1 (gNm 2) (gN1 (gNm 3) gN0))) (fun τ => .ok true τ) (frz (sVar 3)) [2, 3]) ((ss.take k).map pD) [.val (rD ss), .val (.int u), .no, .no] [] = .ok ((ss.take k).map fun p => .int p.2) [.val (rD ss), .val (.int u), .no, .no] :=
    compL_over (ss.take k) (fun p _ => by simp only [pD, evl, evl2, evl3, evl4, prim, slotsE, List.length_cons, List.length_nil, if_true]) (lim_big (by rw [List.length_take]; omega))
  have hg : gSum2 (.lst ((ss.take k).map fun p => .int p.2)) = some (.d (.int (few (ss.take k)))) := gSum_map _ _
  have e : (D.tup ((ss.take k).map pD)).items = some ((ss.take k).map pD) := rfl
  have e2 : ∀ hi, gSl none hi (rD ss) = some (.d (.tup (cutA (ss.map pD) none hi))) := fun _ => rfl
  simp only [den_earliest_place, f_earliest_place, evl, evl2, evl3, evl4, prim, slotsE, hs, nd0, if_true, e2, cut_map_to, e, hc, hg]
theorem rix {ss : List Row} {k : Nat} (h : k < ss.length) : gIx (rD ss) (.int k) = some (.d (pD ss[k])) := by
  show (atI (ss.map pD) (k : Int)).map PR.d = _
  rw [at_nat (by simpa using h)]
  simp
def lateV (ss : List Row) (k : Nat) (p : Row) : Int := many ss - 1 - (if p.2 = p.1 then many (ss.drop (k + 1)) else 0)
theorem late_ok {ss : List Row} {u : Int} {k : Nat} (h : sof ss u = some k) (hl : ss.length ≤ 1000) : den_latest_place [.val (rD ss), .val (.int u)] = .ok (.d (.int (lateV ss k (ss[k]'(sof_lt h))))) [.no, .no] := by
  have hs := stage_ok h
  have hk := sof_lt h
  have hr := rix hk
  generalize hp : ss[k]'hk = p at hr ⊢
  have hu := units_ok (ss := ss) hl
  have hd := units_ok (ss := ss.drop (k + 1)) (by rw [List.length_drop]; omega)
  have e2 : ∀ lo, gSl lo none (rD ss) = some (.d (.tup (cutA (ss.map pD) lo none))) := fun _ => rfl
  have e3 : cutA (ss.map pD) (some ((k : Int) + 1)) none = (ss.drop (k + 1)).map pD := by
    have := cut_map_from ss (k + 1)
    simpa using this
  have e4 : D.tup ((ss.drop (k + 1)).map pD) = rD (ss.drop (k + 1)) := rfl
  unfold lateV
  by_cases c : p.2 = p.1
  · have cb : (p.2 == p.1) = true := by simpa using c
    simp only [den_latest_place, f_latest_place, evl, evl2, evl3, evl4, prim, slotsE, hs, nd0, if_true, hr, pD, List.length_cons, List.length_nil, cb, Bool.false_bne, e2, e3, e4, hu, hd, c, beq_self_eq_true]
  · have cb : (p.2 == p.1) = false := by simpa using c
    simp only [den_latest_place, f_latest_place, evl, evl2, evl3, evl4, prim, slotsE, hs, nd0, if_true, hr, pD, List.length_cons, List.length_nil, cb, Bool.false_bne, hu, c, if_false, Bool.false_eq_true]
theorem ahead_ok {ss : List Row} {a b : Int} {i j : Nat} (h : sof ss a = some i) (h' : sof ss b = some j) : den_is_ahead [.val (rD ss), .val (.int a), .val (.int b)] = .ok (.d (.bl (decide (i < j) && decide ((ss[i]'(sof_lt h)).1 = (ss[i]'(sof_lt h)).2)))) [.no, .no, .no] := by
  have hs := stage_ok h
  have hs' := stage_ok h'
  have hr := rix (sof_lt h)
  generalize hp : ss[i]'(sof_lt h) = p at hr ⊢
  have p0 : gIx (pD p) (.int 0) = some (.d (.int p.1)) := rfl
  have p1 : gIx (pD p) (.int 1) = some (.d (.int p.2)) := rfl
  have hb : decide ((i : Int) < (j : Int)) = decide (i < j) := by simp
  have he : (p.1 == p.2) = decide (p.1 = p.2) := by by_cases z : p.1 = p.2 <;> simp [z]
  by_cases c : i < j
  · simp only [den_is_ahead, f_is_ahead, evl, evl2, evl3, evl4, prim, slotsE, hs, hs', nd0, if_true, hr, p0, p1, hb, c, decide_true, Bool.true_and, Bool.false_bne, he]
  · simp only [den_is_ahead, f_is_ahead, evl, evl2, evl3, evl4, prim, slotsE, hs, hs', nd0, if_true, hr, p0, p1, hb, c, decide_false, Bool.false_and]
theorem rD_take (ss : List Row) (k : Nat) : D.tup ((ss.take k).map pD) = rD (ss.take k) := rfl
theorem timeup_ok {ss : List Row} {ds : List Int} {k : Nat} (h : k < ss.length) : den_time_up [.val (rD ss), .val (.tup (ds.map D.int)), .val (.int k)] = .ok (.d (.int (ds.take (k + 1)).sum)) [.no, .no, .no] := by
  have hc := check_ok h
  have e3 : cutA (ds.map D.int) none (some ((k : Int) + 1)) = (ds.take (k + 1)).map D.int := by
    have := cutA_to (ds.map D.int) (k + 1)
    rw [List.map_take]
    simpa using this
  have hg : gSum2 (.tup ((ds.take (k + 1)).map D.int)) = some (.d (.int (ds.take (k + 1)).sum)) := by
    show (U.intsOf _).map _ = _
    have := ints_map (fun x : Int => x) (ds.take (k + 1))
    rw [this]
    simp
  simp only [den_time_up, f_time_up, evl, evl2, evl3, evl4, prim, slotsE, hc, nd0, if_true, e3, hg]
/-! fewest lost, sure -/
def minL : List Int → Int
  | [] => 0
  | n :: ns => minI n ns
theorem minL_spec {ns : List Int} (h : ns ≠ []) : minL ns ∈ ns ∧ ∀ n ∈ ns, minL ns ≤ n := by
  cases ns with
  | nil => exact absurd rfl h
  | cons n ns =>
    refine ⟨?_, fun m hm => ?_⟩
    · rcases minI_mem ns n with q | q
      · show minI n ns ∈ _; rw [q]; exact List.mem_cons_self ..
      · exact List.mem_cons_of_mem _ q
    · rcases List.mem_cons.mp hm with rfl | hm
      · exact (minI_le ns m).1
      · exact (minI_le ns n).2 m hm
theorem minL_eq {ns : List Int} {m : Int} (h : m ∈ ns) (hle : ∀ n ∈ ns, m ≤ n) : minL ns = m := by
  have hne : ns ≠ [] := fun z => by rw [z] at h; cases h
  obtain ⟨h1, h2⟩ := minL_spec hne
  have a := hle _ h1
  have b := h2 _ h
  omega
theorem gMin_ints {ns : List Int} (h : ns ≠ []) : gMin [.lst (ns.map D.int)] = some (.d (.int (minL ns))) := by
  have e : U.intsOf (ns.map D.int) = some ns := by simpa using ints_map (fun x : Int => x) ns
  unfold gMin
  simp only [e]
  cases ns with
  | nil => exact absurd rfl h
  | cons n ns => rfl
def lostV (ss : List Row) (k : Nat) (p : Row) : Int := minL ((ss.take k).map (fun q => q.1 - q.2 + 1) ++ [p.1])
theorem lost_ok {ss : List Row} {k : Nat} (h : k < ss.length) (hl : ss.length ≤ 1000) : den_fewest_lost [.val (rD ss), .val (.int k)] = .ok (.d (.int (lostV ss k ss[k]))) [.no, .no] := by
  have hc := check_ok h
  have hr := rix h
  generalize hp : ss[k]'h = p at hr ⊢
  have p0 : gIx (pD p) (.int 0) = some (.d (.int p.1)) := rfl
  have e2 : ∀ hi, gSl none hi (rD ss) = some (.d (.tup (cutA (ss.map pD) none hi))) := fun _ => rfl
  have hcm : compL (turnC (gTp 2 (gN1 (gNm 2) (gN1 (gNm 3) gN0))) (fun τ => .ok true τ) (frz (sOp2 gAdd (toB (frz (sOp2 (gInt (fun _ _ => true) fun i j => i - j) (sRd 2) (sRd 3)))) (toB (frz (sC (.int 1)))))) [2, 3]) ((ss.take k).map pD) [.val (rD ss), .val (.int k), .no, .no] [] = .ok ((ss.take k).map fun p => .int (p.1 - p.2 + 1)) [.val (rD ss), .val (.int k), .no, .no] :=
    compL_over (ss.take k) (fun p _ => by simp only [pD, evl, evl2, evl3, evl4, prim, slotsE, List.length_cons, List.length_nil, if_true]) (lim_big (by rw [List.length_take]; omega))
  have hlen : (((ss.take k).map fun p : Row => D.int (p.1 - p.2 + 1)).length + [D.int p.1].length ≤ lim) = True := by
    have : ((ss.take k).map fun p : Row => D.int (p.1 - p.2 + 1)).length + [D.int p.1].length ≤ 1000 + 1 := by rw [List.length_map, List.length_take, List.length_singleton]; omega
    exact eq_true (Nat.le_trans this (by decide))
  have hm : gMin [.lst (((ss.take k).map fun p => D.int (p.1 - p.2 + 1)) ++ [D.int p.1])] = some (.d (.int (lostV ss k p))) := by
    have e := gMin_ints (ns := (ss.take k).map (fun q : Row => q.1 - q.2 + 1) ++ [p.1]) (by simp)
    rw [List.map_append, List.map_map] at e
    exact e
  have l1 : ([D.int p.1].length ≤ lim) = True := eq_true (by show 1 ≤ lim; decide)
  have it : (D.tup ((ss.take k).map pD)).items = some ((ss.take k).map pD) := rfl
  simp only [den_fewest_lost, f_fewest_lost, evl, evl2, evl3, evl4, prim, hc, nd0, if_true, e2, cut_map_to, hr, p0, slotsE, it, hcm, hlen, hm, l1]
def sureV (ss : List Row) (lo : List Int) (k : Nat) (p : Row) (g : Int) : Bool := ((ss.take k).zip (lo.take k)).all (fun q => !decide (q.1.1 - q.2 < q.1.2)) && decide (g < p.1)
theorem zip_map : ∀ (ss : List Row) (lo : List Int), zipD (ss.map pD) (lo.map D.int) = (ss.zip lo).map fun q => .tup [pD q.1, .int q.2]
  | [], lo => by simp [zipD]
  | p :: ss, [] => by simp [zipD]
  | p :: ss, g :: lo => by simp [zipD, zip_map ss lo]
theorem sure_ok {ss : List Row} {lo : List Int} {k : Nat} (h : k < ss.length) (h' : k < lo.length) (hl : ss.length ≤ 1000) : den_is_sure [.val (rD ss), .val (.tup (lo.map D.int)), .val (.int k)] = .ok (.d (.bl (sureV ss lo k ss[k] lo[k]))) [.no, .no, .no] := by
  have hc := check_ok h
  have hr := rix h
  have hr2 : gIx (.tup (lo.map D.int)) (.int k) = some (.d (.int lo[k])) := by
    show (atI (lo.map D.int) (k : Int)).map PR.d = _
    rw [at_nat (by simpa using h')]; simp
  unfold sureV
  generalize ss[k]'h = p at hr ⊢
  generalize lo[k]'h' = g at hr2 ⊢
  have p0 : gIx (pD p) (.int 0) = some (.d (.int p.1)) := rfl
  have e2 : ∀ hi, gSl none hi (rD ss) = some (.d (.tup (cutA (ss.map pD) none hi))) := fun _ => rfl
  have e3 : cutA (lo.map D.int) none (some (k : Int)) = (lo.take k).map D.int := by rw [cutA_to, List.map_take]
  have hcm : compL (turnC (gTp 2 (gN1 (gTp 2 (gN1 (gNm 4) (gN1 (gNm 5) gN0))) (gN1 (gNm 6) gN0))) (fun τ => .ok true τ) (frz (sOp2 (gCmp .ge) (toB (frz (sOp2 (gInt (fun _ _ => true) fun i j => i - j) (sRd 4) (sRd 6)))) (sRd 5))) [4, 5, 6]) (((ss.take k).zip (lo.take k)).map fun q => .tup [pD q.1, .int q.2]) [.val (rD ss), .val (.tup (lo.map D.int)), .val (.int k), .no, .no, .no, .no] []
      = .ok (((ss.take k).zip (lo.take k)).map fun q => .bl (!decide (q.1.1 - q.2 < q.1.2))) [.val (rD ss), .val (.tup (lo.map D.int)), .val (.int k), .no, .no, .no, .no] :=
    compL_over _ (fun p _ => by simp only [pD, evl, evl2, evl3, evl4, prim, slotsE, List.length_cons, List.length_nil, if_true]) (lim_big (by rw [List.length_zip, List.length_take]; omega))
  have hall := gAll_map (fun q : Row × Int => !decide (q.1.1 - q.2 < q.1.2)) ((ss.take k).zip (lo.take k))
  generalize hb : ((ss.take k).zip (lo.take k)).all (fun q => !decide (q.1.1 - q.2 < q.1.2)) = b at hall ⊢
  simp only [den_is_sure, f_is_sure, evl, evl2, evl3, evl4, prim, hc, nd0, if_true, e2, cut_map_to, e3, slotsE, zip_map]
  simp only [evl, evl2, evl3, evl4, prim, slotsE, hcm, hall, if_true, hr, hr2, p0]
  cases b <;> simp only [evl, evl2, evl4, slotsE, prim, Bool.true_and, Bool.false_and]
end U
end

section
set_option Elab.async false
set_option linter.all false
set_option maxRecDepth 100000
namespace U
open PySem PySem.Spec PyProof.Rows L2
/-! ways, paths -/
def chL (m : Int) : Nat → Nat → Int → Int
  | 0, _, f => f
  | c + 1, i, f => chL m c (i + 1) (f * (m - (i : Int)) / ((i : Int) + 1))
def wtc (m n : Int) : Int := chL m (if m - n < n then m - n else n).toNat 0 1
/-- of few bits -/
def Bits (e : Nat) (i : Int) : Prop := i.natAbs < 2 ^ e
theorem Bits.mul {a b : Nat} {i j : Int} (h : Bits a i) (h' : Bits b j) : Bits (a + b) (i * j) := by
  unfold Bits at *
  rw [Int.natAbs_mul, Nat.pow_add]
  exact Nat.mul_lt_mul'' h h'
theorem Bits.div {a : Nat} {i j : Int} (h : Bits a i) (hj : 0 < j) : Bits a (i / j) := by
  unfold Bits at *
  refine Nat.lt_of_le_of_lt ?_ h
  exact Int.natAbs_ediv_le_natAbs i j
theorem Bits.mono {a b : Nat} {i : Int} (h : Bits a i) (le : a ≤ b) : Bits b i := Nat.lt_of_lt_of_le h (Nat.pow_le_pow_right (by decide) le)
theorem Bits.log {a : Nat} {i : Int} (h : Bits a i) : i.natAbs.log2 ≤ a := by
  by_cases h0 : i.natAbs = 0
  · rw [h0]; exact Nat.zero_le _
  · exact Nat.le_of_lt ((Nat.log2_lt h0).mpr h)
theorem cMul_bits {a b : Nat} {i j : Int} (h : Bits a i) (h' : Bits b j) (hab : a + b < 1000000) : cMul i j = true := by
  unfold cMul
  have := h.log
  have := h'.log
  simp only [Bool.or_eq_true, decide_eq_true_eq]
  exact .inr (by omega)
theorem chL_bits {m : Int} : ∀ (c i e : Nat) (f : Int), Bits e f → (∀ j : Nat, i ≤ j → j < i + c → Bits 100 (m - (j : Int))) → Bits (e + 100 * c) (chL m c i f)
  | 0, i, e, f, h, _ => by simpa [chL] using h
  | c + 1, i, e, f, h, hm => by
    have h1 : Bits (e + 100) (f * (m - (i : Int)) / ((i : Int) + 1)) := (h.mul (hm i (Nat.le_refl _) (by omega))).div (by omega)
    have := chL_bits c (i + 1) (e + 100) _ h1 (fun j a b => hm j (by omega) (by omega))
    unfold chL
    exact this.mono (by omega)
theorem ways_loop {m n : Int} : ∀ (c i e : Nat) (f : Int) (s3 : Sl), s3.free = true → Bits e f → e + 100 * (c + 1) < 100000 → i + c ≤ 1000 → (∀ j : Nat, i ≤ j → j < i + c → Bits 100 (m - (j : Int))) → ∃ s3',
    forL (sBody (gNm 3) (sSet 2 (sOp2 (gInt cDiv fun i j => i / j) (toB (frz (sOp2 gMul (sRd 2) (toB (frz (sOp2 (gInt (fun _ _ => true) fun i j => i - j) (sRd 0) (sRd 3))))))) (toB (frz (sOp2 gAdd (sRd 3) (toB (frz (sC (.int 1)))))))))) ((List.range' i c).map fun (j : Nat) => D.int (0 + (j : Int))) [.val (.int m), .val (.int n), .val (.int f), s3] = .nx [.val (.int m), .val (.int n), .val (.int (chL m c i f)), s3']
  | 0, i, e, f, s3, _, _, _, _, _ => ⟨s3, rfl⟩
  | c + 1, i, e, f, s3, f3, h, hb, hi, hm => by
    have hmi := hm i (Nat.le_refl _) (by omega)
    have h1 : Bits (e + 100) (f * (m - (i : Int)) / ((i : Int) + 1)) := (h.mul hmi).div (by omega)
    obtain ⟨s3', ih⟩ := ways_loop (n := n) c (i + 1) (e + 100) _ (.val (.int (0 + (i : Int)))) rfl h1 (by omega) (by omega) (fun j a b => hm j (by omega) (by omega))
    refine ⟨s3', ?_⟩
    have cm : cMul f (m - (0 + (i : Int))) = true := by rw [Int.zero_add]; exact cMul_bits h hmi (by omega)
    have cd : cDiv (f * (m - (0 + (i : Int)))) (0 + (i : Int) + 1) = true := by
      unfold cDiv
      have h1 : (0 : Int) < 0 + (i : Int) + 1 := by omega
      have h2 : (0 + (i : Int) + 1).natAbs.log2 < 9000 := log2_few (by omega)
      simp only [h1, h2, decide_true, Bool.and_self]
    rw [List.range'_succ, List.map_cons, forL_step (τ1 := [.val (.int m), .val (.int n), .val (.int (f * (m - (i : Int)) / ((i : Int) + 1))), .val (.int (0 + (i : Int)))])]
    · exact ih
    · simp only [evl, evl2, evl3, evl4, prim, slotsE, f3, if_true, cm, cd]
      simp only [Int.zero_add]
structure GoodR (p : Row) : Prop where
  lo : 1 ≤ p.2
  le : p.2 ≤ p.1
  hi : p.1 ≤ 10 ^ 30
  sm : p.2 = p.1 ∨ p.2 ≤ 12
theorem GoodR.cnt {p : Row} (g : GoodR p) : (if p.1 - p.2 < p.2 then p.1 - p.2 else p.2).toNat ≤ 12 := by
  have := g.lo; have := g.le
  rcases g.sm with h | h
  · split <;> omega
  · split <;> omega
theorem GoodR.bits {p : Row} (g : GoodR p) : ∀ j : Nat, 0 ≤ j → j < 0 + (if p.1 - p.2 < p.2 then p.1 - p.2 else p.2).toNat → Bits 100 (p.1 - (j : Int)) := fun j _ hj => by
  have := g.cnt
  have := g.hi; have := g.lo; have := g.le
  unfold Bits
  omega
theorem ways_ok {p : Row} (g : GoodR p) : den_ways_to_choose [.val (.int p.1), .val (.int p.2)] = .ok (.d (.int (wtc p.1 p.2))) [.no, .no] := by
  have hc := g.cnt
  have hb := g.bits
  obtain ⟨s3, e⟩ := ways_loop (m := p.1) (n := p.2) (if p.1 - p.2 < p.2 then p.1 - p.2 else p.2).toNat 0 1 1 .no rfl (by unfold Bits; decide) (by omega) (by omega) hb
  have hr : rng 0 (if p.1 - p.2 < p.2 then p.1 - p.2 else p.2).toNat = (List.range' 0 (if p.1 - p.2 < p.2 then p.1 - p.2 else p.2).toNat).map fun (j : Nat) => D.int (0 + (j : Int)) := by
    unfold rng; rw [List.range_eq_range']
  have hrng : (-(2 ^ 62) ≤ (if p.1 - p.2 < p.2 then p.1 - p.2 else p.2) ∧ (if p.1 - p.2 < p.2 then p.1 - p.2 else p.2) < 2 ^ 62) = True := by
    have := g.lo; have := g.le
    refine eq_true ⟨?_, ?_⟩
    · split <;> omega
    · have : (if p.1 - p.2 < p.2 then p.1 - p.2 else p.2) ≤ 12 := by omega
      omega
  unfold wtc
  simp only [den_ways_to_choose, f_ways_to_choose, evl, evl2, evl3, evl4, prim, slotsE, if_true, hrng, hr, e]
def pth (ss : List Row) : Int := ss.foldl (fun f p => f * wtc p.1 p.2) 1
theorem wtc_bits {p : Row} (g : GoodR p) : Bits 1300 (wtc p.1 p.2) := by
  have h := chL_bits (m := p.1) (if p.1 - p.2 < p.2 then p.1 - p.2 else p.2).toNat 0 1 1 (by unfold Bits; decide) g.bits
  have := g.cnt
  exact h.mono (by omega)
theorem paths_loop {v0 v1 : D} : ∀ (ss : List Row) (e : Nat) (f : Int) (s3 s4 : Sl), (∀ p ∈ ss, GoodR p) → s3.free = true → s4.free = true → Bits e f → e + 1300 * (ss.length + 1) < 900000 → ∃ s3' s4',
    forL (sBody (gTp 2 (gN1 (gNm 3) (gN1 (gNm 4) gN0))) (sSet 2 (sOp2 gMul (sRd 2) (toB (frz (sCall den_ways_to_choose (sBCons (toB (frz (sVar 3))) (sBCons (toB (frz (sVar 4))) sBNil)))))))) (ss.map pD) [.val v0, .val v1, .val (.int f), s3, s4] = .nx [.val v0, .val v1, .val (.int (ss.foldl (fun f p => f * wtc p.1 p.2) f)), s3', s4']
  | [], e, f, s3, s4, _, _, _, _, _ => ⟨s3, s4, rfl⟩
  | p :: ss, e, f, s3, s4, hg, f3, f4, hb, hl => by
    have gp := hg p (List.mem_cons_self ..)
    have hw := ways_ok gp
    have hwb := wtc_bits gp
    rw [List.length_cons] at hl
    obtain ⟨s3', s4', ih⟩ := paths_loop ss (e + 1300) (f * wtc p.1 p.2) (.val (.int p.1)) (.val (.int p.2)) (fun q hq => hg q (List.mem_cons_of_mem _ hq)) rfl rfl (hb.mul hwb) (by omega)
    refine ⟨s3', s4', ?_⟩
    have cm := cMul_bits hb hwb (by omega)
    rw [List.map_cons, forL_step (τ1 := [.val v0, .val v1, .val (.int (f * wtc p.1 p.2)), .val (.int p.1), .val (.int p.2)]), List.foldl_cons]
    · exact ih
    · simp only [pD, evl, evl2, evl3, evl4, prim, slotsE, f3, f4, if_true, hw, nd0, cm, List.length_cons, List.length_nil]
theorem paths_ok {ss : List Row} {k : Nat} (h : k < ss.length) (hl : ss.length ≤ 100) (hg : ∀ p ∈ ss, GoodR p) : den_how_many_paths [.val (rD ss), .val (.int k)] = .ok (.d (.int (pth (ss.take k)))) [.no, .no] := by
  have hc := check_ok h
  have e2 : ∀ hi, gSl none hi (rD ss) = some (.d (.tup (cutA (ss.map pD) none hi))) := fun _ => rfl
  have it : (D.tup ((ss.take k).map pD)).items = some ((ss.take k).map pD) := rfl
  obtain ⟨s3, s4, e⟩ := paths_loop (v0 := rD ss) (v1 := .int k) (ss.take k) 1 1 .no .no (fun p hp => hg p (List.mem_of_mem_take hp)) rfl rfl (by unfold Bits; decide) (by rw [List.length_take]; omega)
  unfold pth
  simp only [den_how_many_paths, f_how_many_paths, evl, evl2, evl3, evl4, prim, hc, nd0, if_true, e2, cut_map_to, slotsE, it, e]
/-! the laws of such rows -/
theorem many_append (a b : List Row) : many (a ++ b) = many a + many b := by unfold many; rw [List.map_append, List.sum_append]
theorem few_append (a b : List Row) : few (a ++ b) = few a + few b := by unfold few; rw [List.map_append, List.sum_append]
theorem many_nonneg : ∀ {ss : List Row}, (∀ p ∈ ss, GoodR p) → 0 ≤ many ss
  | [], _ => by simp [many]
  | p :: ss, h => by
    have g := h p (List.mem_cons_self ..)
    have := many_nonneg (ss := ss) fun q hq => h q (List.mem_cons_of_mem _ hq)
    have e : many (p :: ss) = p.1 + many ss := by unfold many; simp
    have := g.lo; have := g.le
    omega
theorem many_cons (p : Row) (ss : List Row) : many (p :: ss) = p.1 + many ss := by unfold many; simp
theorem sof_some : ∀ {ss : List Row} {r : Int}, (∀ p ∈ ss, GoodR p) → 0 ≤ r → r < many ss → ∃ k, sof ss r = some k
  | [], r, _, h0, h => by simp [many] at h; omega
  | p :: ss, r, hg, h0, h => by
    unfold sof
    by_cases c : 0 ≤ r ∧ r < p.1
    · exact ⟨0, if_pos c⟩
    · rw [if_neg c]
      rw [many_cons] at h
      obtain ⟨k, e⟩ := sof_some (ss := ss) (r := r - p.1) (fun q hq => hg q (List.mem_cons_of_mem _ hq)) (by omega) (by omega)
      exact ⟨k + 1, by rw [e]; rfl⟩
theorem sof_left : ∀ {a b : List Row} {r : Int} {k : Nat}, sof a r = some k → sof (a ++ b) r = some k
  | [], b, r, k, h => by cases h
  | p :: a, b, r, k, h => by
    rw [List.cons_append]
    unfold sof at h ⊢
    split at h
    · rename_i c; rw [if_pos c]; exact h
    · rename_i c
      rw [if_neg c]
      obtain ⟨k', e, rfl⟩ := map_some h
      rw [sof_left e]; rfl
theorem sof_right : ∀ {a b : List Row} {r : Int} {k : Nat}, (∀ p ∈ a, GoodR p) → 0 ≤ r → sof b r = some k → sof (a ++ b) (many a + r) = some (a.length + k)
  | [], b, r, k, _, _, h => by simpa [many] using h
  | p :: a, b, r, k, hg, h0, h => by
    have hm := many_nonneg (ss := a) fun q hq => hg q (List.mem_cons_of_mem _ hq)
    rw [List.cons_append, many_cons]
    unfold sof
    rw [if_neg (by omega)]
    have := sof_right (a := a) (fun q hq => hg q (List.mem_cons_of_mem _ hq)) h0 h
    rw [show p.1 + many a + r - p.1 = many a + r by omega, this]
    simp; omega
theorem pth_mul : ∀ (ss : List Row) (f : Int), ss.foldl (fun f p => f * wtc p.1 p.2) f = f * pth ss
  | [], f => by simp [pth]
  | p :: ss, f => by
    unfold pth
    rw [List.foldl_cons, List.foldl_cons, pth_mul ss, pth_mul ss (1 * wtc p.1 p.2)]
    rw [Int.one_mul, Int.mul_assoc]
theorem pth_append (a b : List Row) : pth (a ++ b) = pth a * pth b := by
  show (a ++ b).foldl (fun f p => f * wtc p.1 p.2) 1 = _
  rw [List.foldl_append, pth_mul b]; rfl
end U
end

section
set_option Elab.async false
set_option linter.all false
set_option maxRecDepth 100000
namespace U
open PySem PySem.Spec PyProof.Rows L2
theorem limE : (0 ≤ lim) = True ∧ (1 ≤ lim) = True ∧ (2 ≤ lim) = True ∧ (3 ≤ lim) = True ∧ (4 ≤ lim) = True ∧ (5 ≤ lim) = True ∧ (6 ≤ lim) = True ∧ (7 ≤ lim) = True ∧ (8 ≤ lim) = True ∧ (9 ≤ lim) = True ∧ (10 ≤ lim) = True ∧ (11 ≤ lim) = True ∧ (12 ≤ lim) = True := by
  repeat' apply And.intro
  all_goals exact eq_true (by decide)
theorem nd1 (i : Nat) : [i].Nodup = True := by simp
/-! stages -/
theorem stages_loop {cap most : Int} (hc1 : 1 ≤ cap) (hc2 : cap ≤ 10 ^ 30) : ∀ (ds : List D) (k : Nat) (u : List D) (ss : List Row) (s4 s5 : Sl), Urn k u → k + 3 * ds.length < 2 ^ 60 → s4.free = true → s5.free = true → (∀ p ∈ ss, GoodR p) → ss.length + ds.length ≤ 100 → ∃ (u' : List D) (ss' : List Row) (s4' s5' : Sl), Urn (k + 3 * ds.length) u' ∧ (∀ p ∈ ss', GoodR p) ∧ ss'.length = ss.length + ds.length ∧
    forL (sBody (gNm 4) (sSeq (sSet 5 (sOp2 gAdd (toB (frz (sC (.int 1)))) (toB (frz (sCall den__law_take (sBCons (sRd 0) (sBCons (toB (frz (sVar 1))) sBNil))))))) (sDrop (sMeth 3 mAppend (sCons (frz (sTup (sCons (frz (sVar 5)) (sCons (frz (sOp2 gIx (toB (frz (sLst (sCons (frz (sVar 5)) (sCons (frz (sOp2 gAdd (toB (frz (sC (.int 1)))) (toB (frz (sCall den__law_take (sBCons (sRd 0) (sBCons (toB (frz (sCB gMin (sBCons (sRd 5) (sBCons (toB (frz (sC (.int 12)))) sBNil))))) sBNil))))))) sNil))))) (toB (frz (sCall den__law_take (sBCons (sRd 0) (sBCons (toB (frz (sC (.int 2)))) sBNil))))))) sNil)))) sNil))))) ds
      [.io (.l u), .val (.int cap), .val (.int most), .own (.l (ss.map pD)), s4, s5] = .nx [.io (.l u'), .val (.int cap), .val (.int most), .own (.l (ss'.map pD)), s4', s5']
  | [], k, u, ss, s4, s5, hu, _, _, _, hg, _ => ⟨u, ss, s4, s5, hu, hg, rfl, rfl⟩
  | d :: ds, k, u, ss, s4, s5, hu, hk, f4, f5, hg, hl => by
    rw [List.length_cons] at hk hl
    obtain ⟨a, u1, a0, a1, hu1, e1⟩ := take_ok (n := cap) hu (by omega) (by omega) (log2_few (by omega))
    have hmn : 0 < (if (12 : Int) < 1 + a then 12 else 1 + a) ∧ (if (12 : Int) < 1 + a then 12 else 1 + a) ≤ 12 ∧ (if (12 : Int) < 1 + a then 12 else 1 + a) ≤ 1 + a := by split <;> omega
    obtain ⟨b, u2, b0, b1, hu2, e2⟩ := take_ok (n := if (12 : Int) < 1 + a then 12 else 1 + a) hu1 (by omega) hmn.1 (log2_few (by omega))
    obtain ⟨c, u3, c0, c1, hu3, e3⟩ := take_ok (n := 2) hu2 (by omega) (by decide) (by decide)
    have hx : ∃ x : Int, atI [D.int (1 + a), D.int (1 + b)] c = some (.int x) ∧ GoodR (1 + a, x) := by
      have : c = 0 ∨ c = 1 := by omega
      rcases this with rfl | rfl
      · exact ⟨1 + a, rfl, ⟨by show 1 ≤ 1 + a; omega, Int.le_refl _, by show 1 + a ≤ _; omega, .inl rfl⟩⟩
      · exact ⟨1 + b, rfl, ⟨by show 1 ≤ 1 + b; omega, by show 1 + b ≤ 1 + a; omega, by show 1 + a ≤ _; omega, .inr (by show 1 + b ≤ 12; omega)⟩⟩
    obtain ⟨x, ex, gx⟩ := hx
    have hg2 : ∀ p ∈ ss ++ [(1 + a, x)], GoodR p := fun p hp => by
      rcases List.mem_append.mp hp with hp | hp
      · exact hg p hp
      · rw [List.mem_singleton.mp hp]; exact gx
    obtain ⟨u', ss', s4', s5', h1, h2, h3, h4⟩ := stages_loop (most := most) hc1 hc2 ds (k + 3) u3 (ss ++ [(1 + a, x)]) (.val d) (.val (.int (1 + a))) hu3 (by omega) rfl rfl hg2 (by rw [List.length_append, List.length_singleton]; omega)
    refine ⟨u', ss', s4', s5', h1.mono (by rw [List.length_cons]; omega), h2, by rw [h3, List.length_append, List.length_singleton, List.length_cons]; omega, ?_⟩
    have hll : ((ss.map pD).length < lim) = True := eq_true (by rw [List.length_map]; exact Nat.lt_of_lt_of_le (show ss.length < 200 by omega) (by decide))
    have hm : (ss ++ [(1 + a, x)]).map pD = ss.map pD ++ [D.tup [D.int (1 + a), D.int x]] := by rw [List.map_append]; rfl
    rw [hm] at h4
    rw [forL_step (τ1 := [.io (.l u3), .val (.int cap), .val (.int most), .own (.l (ss.map pD ++ [D.tup [D.int (1 + a), D.int x]])), .val d, .val (.int (1 + a))])]
    · exact h4
    · simp only [evl, evl2, evl3, evl4, prim, slotsE, f4, f5, if_true, e1, e2, e3, nd1, ex, hll, List.length_cons, List.length_nil, Nat.reduceAdd, limE]
theorem stages_ok {k : Nat} {u : List D} {cap : Int} (hu : Urn k u) (hk : k + 20 < 2 ^ 60) (hc1 : 1 ≤ cap) (hc2 : cap ≤ 10 ^ 30) : ∃ (u' : List D) (ss : List Row), Urn (k + 13) u' ∧ (∀ p ∈ ss, GoodR p) ∧ 1 ≤ ss.length ∧ ss.length ≤ 4 ∧ den__law_stages [.io (.l u), .val (.int cap), .val (.int 4)] = .ok (.d (rD ss)) [.io (.l u'), .no, .no] := by
  obtain ⟨a, u1, a0, a1, hu1, e1⟩ := take_ok (n := 4) hu (by omega) (by decide) (by decide)
  obtain ⟨n, hn⟩ : ∃ n : Nat, 1 + a = (n : Int) := ⟨(1 + a).toNat, by omega⟩
  have hlen : (rng 0 n).length = n := by simp [rng]
  obtain ⟨u', ss, s4, s5, h1, h2, h3, h4⟩ := stages_loop (most := 4) hc1 hc2 (rng 0 n) (k + 1) u1 [] .no .no hu1 (by rw [hlen]; omega) rfl rfl (fun p hp => by cases hp) (by rw [hlen, List.length_nil]; omega)
  rw [hlen] at h1 h3
  rw [List.length_nil] at h3
  refine ⟨u', ss, h1.mono (by omega), h2, by omega, by omega, ?_⟩
  have hr : (-(2 ^ 62) ≤ (n : Int) ∧ (n : Int) < 2 ^ 62) = True := eq_true ⟨by omega, by omega⟩
  have hz : (([] : List D).length ≤ lim) = True := eq_true (by decide)
  have ht : (n : Int).toNat = n := by omega
  simp only [List.map_nil] at h4
  simp only [den__law_stages, f__law_stages, evl, evl2, evl3, evl4, prim, slotsE, if_true, e1, nd1, hn, hr, ht, hz, h4, rD]
/-! losses -/
theorem sure1 {ss : List Row} {k m : Nat} (hg : ∀ p ∈ ss, GoodR p) (hk : k < ss.length) (hm : m ≤ k) :
    sureV ss ((List.replicate ss.length 0).set m (if lostV ss k ss[k] - 1 < ss[m].1 then lostV ss k ss[k] - 1 else ss[m].1)) k ss[k] (((List.replicate ss.length 0).set m (if lostV ss k ss[k] - 1 < ss[m].1 then lostV ss k ss[k] - 1 else ss[m].1))[k]'(by simpa using hk)) = true := by
  have hml : m < ss.length := by omega
  obtain ⟨l1, l2⟩ := minL_spec (ns := (ss.take k).map (fun q : Row => q.1 - q.2 + 1) ++ [ss[k].1]) (by simp)
  have hlast : lostV ss k ss[k] ≤ ss[k].1 := l2 _ (by simp)
  have hin : ∀ i (hi : i < k), lostV ss k ss[k] ≤ (ss[i]'(by omega)).1 - (ss[i]'(by omega)).2 + 1 := fun i hi => l2 _ (by
    refine List.mem_append_left _ (List.mem_map.mpr ⟨ss[i]'(by omega), ?_, rfl⟩)
    rw [List.mem_take_iff_getElem]
    exact ⟨i, by omega, rfl⟩)
  generalize hL : lostV ss k ss[k] = L at *
  generalize hv : (if L - 1 < ss[m].1 then L - 1 else ss[m].1) = v
  have hvL : v ≤ L - 1 := by rw [← hv]; split <;> omega
  unfold sureV
  rw [Bool.and_eq_true]
  refine ⟨List.all_eq_true.mpr fun q hq => ?_, ?_⟩
  · obtain ⟨i, hi, rfl⟩ := List.mem_iff_getElem.mp hq
    simp only [List.length_zip, List.length_take, List.length_set, List.length_replicate] at hi
    have hik : i < k := by omega
    simp only [List.getElem_zip, List.getElem_take, List.getElem_set, List.getElem_replicate]
    have gi := hg (ss[i]'(by omega)) (List.getElem_mem _)
    have hli := hin i hik
    have := gi.le
    by_cases c : m = i
    · simp only [c, if_true]; simp; omega
    · simp only [c, if_false]; simp; omega
  · have gk := hg ss[k] (List.getElem_mem _)
    have := gk.lo; have := gk.le
    rw [List.getElem_set, List.getElem_replicate]
    by_cases c : m = k
    · rw [if_pos c]; simp; omega
    · rw [if_neg c]; simp; omega
theorem sure2 {ss : List Row} {k m : Nat} {lo : List Int} (hl : lo.length = ss.length) (hk : k < ss.length) (hm : m ≤ k) :
    sureV ss (lo.set m (if m = k then (ss[m]'(by omega)).1 else (ss[m]'(by omega)).1 - (ss[m]'(by omega)).2 + 1)) k ss[k] ((lo.set m (if m = k then (ss[m]'(by omega)).1 else (ss[m]'(by omega)).1 - (ss[m]'(by omega)).2 + 1))[k]'(by rw [List.length_set]; omega)) = false := by
  unfold sureV
  by_cases c : m = k
  · subst c
    rw [List.getElem_set_self, if_pos rfl]
    simp
  · rw [if_neg c]
    have : ((ss.take k).zip ((lo.set m ((ss[m]'(by omega)).1 - (ss[m]'(by omega)).2 + 1)).take k)).all (fun q => !decide (q.1.1 - q.2 < q.1.2)) = false := by
      rw [List.all_eq_false]
      have hz : m < ((ss.take k).zip ((lo.set m ((ss[m]'(by omega)).1 - (ss[m]'(by omega)).2 + 1)).take k)).length := by
        simp only [List.length_zip, List.length_take, List.length_set]; omega
      refine ⟨_, List.getElem_mem hz, ?_⟩
      simp only [List.getElem_zip, List.getElem_take, List.getElem_set_self]
      simp; omega
    rw [this]; rfl
end U
end

section
set_option Elab.async false
set_option linter.all false
set_option maxRecDepth 100000
namespace U
open PySem PySem.Spec PyProof.Rows L2
theorem rng_mem {n : Nat} {d : D} (h : d ∈ rng 0 n) : ∃ i : Nat, i < n ∧ d = .int i := by
  unfold rng at h
  obtain ⟨i, hi, e⟩ := List.mem_map.mp h
  exact ⟨i, List.mem_range.mp hi, by rw [← e, Int.zero_add]⟩
theorem lenR (ss : List Row) : gLen (rD ss) = some (.d (.int ss.length)) := by
  show some (PR.d (D.int ((ss.map pD).length : Nat))) = _
  rw [List.length_map]
theorem small62 {n : Nat} (h : n ≤ 1000) : (-(2 ^ 62) ≤ (n : Int) ∧ (n : Int) < 2 ^ 62) = True := eq_true ⟨by omega, by omega⟩
theorem toNatI (n : Nat) : (n : Int).toNat = n := by omega
theorem zeros (n : Nat) (h : n ≤ 1000) : gMul (.lst [.int 0]) (.int n) = some (.o (.l ((List.replicate n 0).map D.int))) := by
  have e : rep (n : Int) [D.int 0] = (List.replicate n 0).map D.int := by
    unfold rep
    rw [toNatI]
    rw [List.map_replicate]
    induction n with
    | zero => rfl
    | succ n ih => rw [List.replicate_succ, List.flatten_cons, ih (by omega), List.replicate_succ]; rfl
  show (if [D.int 0].length * (n : Int).toNat ≤ lim ∧ -(2 ^ 63) ≤ (n : Int) ∧ (n : Int) < 2 ^ 63 then some (PR.o (.l (rep n [.int 0]))) else none) = _
  rw [if_pos ⟨by rw [toNatI, List.length_singleton, Nat.one_mul]; exact lim_big h, by omega, by omega⟩, e]
theorem losses_ok {ss : List Row} (hg : ∀ p ∈ ss, GoodR p) (hl : ss.length ≤ 100) : den__law_losses_right [.val (rD ss)] = .ok (.d (.bl true)) [.no] := by
  have inner : ∀ (k : Nat) (hk : k < ss.length) (s3 s4 s5 s6 : Sl), s3.free = true → s4.free = true → s5.free = true → s6.free = true → ∃ τ', forL (sBody (gNm 3) (sSeq (sUnp (gTp 2 (gN1 (gNm 4) (gN1 (gNm 5) gN0))) (frz (sOp2 gIx (sRd 0) (sRd 3)))) (sSeq (sSet 6 (sOp2 gMul (toB (frz (sLst (sCons (frz (sC (.int 0))) sNil)))) (toB (frz (sCB (g1 gLen) (sBCons (sRd 0) sBNil)))))) (sSeq (sStore 6 (frz (sCB gMin (sBCons (sRd 4) (sBCons (toB (frz (sOp2 (gInt (fun _ _ => true) fun i j => i - j) (sRd 2) (toB (frz (sC (.int 1))))))) sBNil)))) (frz (sVar 3))) (sSeq (sIfS (sNot (sTru (toB (frz (sCall den_is_sure (sBCons (toB (frz (sVar 0))) (sBCons (toB (frz (sCB (g1 gTuple) (sBCons (sRd 6) sBNil)))) (sBCons (toB (frz (sVar 1))) sBNil)))))))) (sRet (sC (.bl false))) sNext) (sSeq (sStore 6 (frz (sIte (sTB (sOp2 (gEq false) (sRd 3) (sRd 1))) (sVar 4) (sOp2 gAdd (toB (frz (sOp2 (gInt (fun _ _ => true) fun i j => i - j) (sRd 4) (sRd 5)))) (toB (frz (sC (.int 1))))))) (frz (sVar 3))) (sIfS (sTru (toB (frz (sCall den_is_sure (sBCons (toB (frz (sVar 0))) (sBCons (toB (frz (sCB (g1 gTuple) (sBCons (sRd 6) sBNil)))) (sBCons (toB (frz (sVar 1))) sBNil))))))) (sRet (sC (.bl false))) sNext)))))))
      (rng 0 (k + 1)) [.val (rD ss), .val (.int k), .val (.int (lostV ss k ss[k])), s3, s4, s5, s6] = .nx τ' ∧ ∃ s3 s4 s5 s6, τ' = [.val (rD ss), .val (.int k), .val (.int (lostV ss k ss[k])), s3, s4, s5, s6] ∧ s3.free = true ∧ s4.free = true ∧ s5.free = true ∧ s6.free = true := fun k hk s3 s4 s5 s6 f3 f4 f5 f6 => by
    refine forL_inv (P := fun τ' => ∃ s3 s4 s5 s6, τ' = [.val (rD ss), .val (.int k), .val (.int (lostV ss k ss[k])), s3, s4, s5, s6] ∧ s3.free = true ∧ s4.free = true ∧ s5.free = true ∧ s6.free = true) _ _ (fun d hd τ hτ => ?_) ⟨s3, s4, s5, s6, rfl, f3, f4, f5, f6⟩
    obtain ⟨s3, s4, s5, s6, rfl, f3, f4, f5, f6⟩ := hτ
    obtain ⟨m, hm, rfl⟩ := rng_mem hd
    have hml : m < ss.length := by omega
    have r1 := rix hml
    have v1 := sure1 hg hk (show m ≤ k by omega)
    have o1 := sure_ok (ss := ss) (lo := (List.replicate ss.length 0).set m (if lostV ss k ss[k] - 1 < ss[m].1 then lostV ss k ss[k] - 1 else ss[m].1)) hk (by simpa using hk) (by omega)
    rw [v1] at o1
    have v2 := sure2 (lo := (List.replicate ss.length 0).set m (if lostV ss k ss[k] - 1 < ss[m].1 then lostV ss k ss[k] - 1 else ss[m].1)) (by simp) hk (show m ≤ k by omega)
    have o2 := sure_ok (ss := ss) (lo := ((List.replicate ss.length 0).set m (if lostV ss k ss[k] - 1 < ss[m].1 then lostV ss k ss[k] - 1 else ss[m].1)).set m (if m = k then ss[m].1 else ss[m].1 - ss[m].2 + 1)) hk (by simpa using hk) (by omega)
    rw [v2] at o2
    have hix : ∀ l : List Int, l.length = ss.length → ixN (l.map D.int).length (m : Int) = some m := fun l h => ixN_nat (by rw [List.length_map, h]; exact hml)
    have i1 := hix (List.replicate ss.length 0) (by simp)
    generalize hL : lostV ss k ss[k] = L at *
    generalize hp : ss[m]'hml = p at *
    generalize hv : (if L - 1 < p.1 then L - 1 else p.1) = v at *
    have i2 := hix ((List.replicate ss.length 0).set m v) (by simp)
    have hz := zeros ss.length (by omega)
    refine ⟨[.val (rD ss), .val (.int k), .val (.int L), .val (.int m), .val (.int p.1), .val (.int p.2), .own (.l ((((List.replicate ss.length 0).set m v).set m (if m = k then p.1 else p.1 - p.2 + 1)).map D.int))], ?_, _, _, _, _, rfl, rfl, rfl, rfl, rfl⟩
    by_cases c : m = k
    · have cb : ((m : Int) == (k : Int)) = true := by rw [c]; exact beq_self_eq_true _
      rw [if_pos c] at o2 ⊢
      simp only [pD, evl, evl2, evl3, evl4, prim, slotsE, f3, f4, f5, f6, if_true, r1, lenR, hz, limE, nd0, i1, i2, hv, ← List.map_set, o1, o2, Bool.not_true, Bool.not_false, Bool.false_eq_true, if_false, cb, Bool.false_bne, List.length_cons, List.length_nil, Nat.reduceAdd]
    · have cb : ((m : Int) == (k : Int)) = false := beq_eq_false_iff_ne.mpr (by omega)
      rw [if_neg c] at o2 ⊢
      simp only [pD, evl, evl2, evl3, evl4, prim, slotsE, f3, f4, f5, f6, if_true, r1, lenR, hz, limE, nd0, i1, i2, hv, ← List.map_set, o1, o2, Bool.not_true, Bool.not_false, Bool.false_eq_true, if_false, cb, Bool.false_bne, List.length_cons, List.length_nil, Nat.reduceAdd]
  have outer := forL_inv (P := fun τ' => ∃ s1 s2 s3 s4 s5 s6, τ' = [.val (rD ss), s1, s2, s3, s4, s5, s6] ∧ s1.free = true ∧ s2.free = true ∧ s3.free = true ∧ s4.free = true ∧ s5.free = true ∧ s6.free = true)
    (body := sBody (gNm 1) (sSeq (sSet 2 (sCall den_fewest_lost (sBCons (toB (frz (sVar 0))) (sBCons (toB (frz (sVar 1))) sBNil)))) (sFor (sRng1 (sCons (frz (sOp2 gAdd (sRd 1) (toB (frz (sC (.int 1)))))) sNil)) (gNm 3) (sSeq (sUnp (gTp 2 (gN1 (gNm 4) (gN1 (gNm 5) gN0))) (frz (sOp2 gIx (sRd 0) (sRd 3)))) (sSeq (sSet 6 (sOp2 gMul (toB (frz (sLst (sCons (frz (sC (.int 0))) sNil)))) (toB (frz (sCB (g1 gLen) (sBCons (sRd 0) sBNil)))))) (sSeq (sStore 6 (frz (sCB gMin (sBCons (sRd 4) (sBCons (toB (frz (sOp2 (gInt (fun _ _ => true) fun i j => i - j) (sRd 2) (toB (frz (sC (.int 1))))))) sBNil)))) (frz (sVar 3))) (sSeq (sIfS (sNot (sTru (toB (frz (sCall den_is_sure (sBCons (toB (frz (sVar 0))) (sBCons (toB (frz (sCB (g1 gTuple) (sBCons (sRd 6) sBNil)))) (sBCons (toB (frz (sVar 1))) sBNil)))))))) (sRet (sC (.bl false))) sNext) (sSeq (sStore 6 (frz (sIte (sTB (sOp2 (gEq false) (sRd 3) (sRd 1))) (sVar 4) (sOp2 gAdd (toB (frz (sOp2 (gInt (fun _ _ => true) fun i j => i - j) (sRd 4) (sRd 5)))) (toB (frz (sC (.int 1))))))) (frz (sVar 3))) (sIfS (sTru (toB (frz (sCall den_is_sure (sBCons (toB (frz (sVar 0))) (sBCons (toB (frz (sCB (g1 gTuple) (sBCons (sRd 6) sBNil)))) (sBCons (toB (frz (sVar 1))) sBNil))))))) (sRet (sC (.bl false))) sNext)))))))))
    (rng 0 ss.length) [.val (rD ss), .no, .no, .no, .no, .no, .no] (fun d hd τ hτ => by
      obtain ⟨s1, s2, s3, s4, s5, s6, rfl, f1, f2, f3, f4, f5, f6⟩ := hτ
      obtain ⟨k, hk, rfl⟩ := rng_mem hd
      obtain ⟨τ', e, t3, t4, t5, t6, rfl, g3, g4, g5, g6⟩ := inner k hk s3 s4 s5 s6 f3 f4 f5 f6
      have lo := lost_ok hk (by omega)
      have hr : (-(2 ^ 62) ≤ (k : Int) + 1 ∧ (k : Int) + 1 < 2 ^ 62) = True := eq_true ⟨by omega, by omega⟩
      have ht : ((k : Int) + 1).toNat = k + 1 := by omega
      refine ⟨_, ?_, .val (.int k), .val (.int (lostV ss k ss[k])), t3, t4, t5, t6, rfl, rfl, rfl, g3, g4, g5, g6⟩
      simp only [evl, evl2, evl3, evl4, prim, slotsE, f1, f2, if_true, nd0, lo, hr, ht, e]) ⟨_, _, _, _, _, _, rfl, rfl, rfl, rfl, rfl, rfl, rfl⟩
  obtain ⟨τ', e, s1, s2, s3, s4, s5, s6, rfl, _⟩ := outer
  simp only [den__law_losses_right, f__law_losses_right, evl, evl2, evl3, evl4, prim, slotsE, lenR, small62 (show ss.length ≤ 1000 by omega), toNatI, if_true, e]
end U
end

section
set_option Elab.async false
set_option linter.all false
set_option maxRecDepth 100000
set_option maxHeartbeats 0
namespace U
open PySem PySem.Spec PyProof.Rows L2
theorem addR {a b : List Row} (h : a.length + b.length ≤ 1000) : gAdd (rD a) (rD b) = some (.d (rD (a ++ b))) := by
  show (if (a.map pD).length + (b.map pD).length ≤ lim then some (PR.d (D.tup (a.map pD ++ b.map pD))) else none) = _
  rw [if_pos (by rw [List.length_map, List.length_map]; exact lim_big h), ← List.map_append]
  rfl
theorem itemsR (ss : List Row) : (rD ss).items = some (ss.map pD) := rfl
theorem get_left {a b : List Row} {i : Nat} (h : i < a.length) (h' : i < (a ++ b).length) : (a ++ b)[i] = a[i] := List.getElem_append_left h
theorem run_seq {S R : T → SR} {τ t : T} {as : List Sl} {X : DR} (h : S τ = .nx t) (h2 : DR.of (R t) as = X) : DR.of (sSeq S R τ) as = X := by
  show DR.of ((S τ).then R) as = X
  rw [h]; exact h2
theorem take_ab (a b : List Row) (m : Nat) : (a ++ b).take (a.length + m) = a ++ b.take m := by
  rw [List.take_append, List.take_of_length_le (Nat.le_add_right _ _), Nat.add_sub_cancel_left]
theorem drop_ab (a b : List Row) (m : Nat) : (a ++ b).drop (a.length + m) = b.drop m := by
  rw [List.drop_append, List.drop_of_length_le (Nat.le_add_right _ _), Nat.add_sub_cancel_left, List.nil_append]
theorem get_ab (a b : List Row) (m : Nat) (h : m < b.length) (h' : a.length + m < (a ++ b).length) : (a ++ b)[a.length + m] = b[m] := by
  rw [List.getElem_append_right (Nat.le_add_right _ _)]
  congr 1; omega
theorem cast_ab (x m : Nat) : ((x + m : Nat) : Int) = (x : Int) + (m : Int) := by omega
theorem pth_bits : ∀ (ss : List Row), (∀ p ∈ ss, GoodR p) → Bits (1 + 1300 * ss.length) (pth ss)
  | [], _ => by unfold pth Bits; decide
  | p :: ss, h => by
    have h1 := pth_bits ss fun q hq => h q (List.mem_cons_of_mem _ hq)
    have h2 := wtc_bits (h p (List.mem_cons_self ..))
    have e : pth (p :: ss) = wtc p.1 p.2 * pth ss := by
      unfold pth
      rw [List.foldl_cons, pth_mul, Int.one_mul]; rfl
    rw [e]
    exact (h2.mul h1).mono (by rw [List.length_cons]; omega)
theorem lost_ab {a b : List Row} {m : Nat} {p : Row} (la : 1 ≤ a.length) : lostV (a ++ b) (a.length + m) p = if lostV b m p < minL (a.map fun p => p.1 - p.2 + 1) then lostV b m p else minL (a.map fun p => p.1 - p.2 + 1) := by
  have hne : (a.map fun p : Row => p.1 - p.2 + 1) ≠ [] := by
    intro z
    have : a = [] := by simpa using z
    rw [this] at la; simp at la
  obtain ⟨l1, l2⟩ := minL_spec hne
  unfold lostV
  obtain ⟨k1, k2⟩ := minL_spec (ns := (b.take m).map (fun q : Row => q.1 - q.2 + 1) ++ [p.1]) (by simp)
  rw [take_ab, List.map_append, List.append_assoc]
  generalize (b.take m).map (fun q : Row => q.1 - q.2 + 1) ++ [p.1] = Y at *
  generalize minL (a.map fun p : Row => p.1 - p.2 + 1) = L0 at *
  split
  · exact minL_eq (List.mem_append_right _ k1) fun n hn => (List.mem_append.mp hn).elim (fun z => by have := l2 n z; omega) (fun z => k2 n z)
  · exact minL_eq (List.mem_append_left _ l1) fun n hn => (List.mem_append.mp hn).elim (fun z => l2 n z) (fun z => by have := k2 n z; omega)
theorem two_loop {a b : List Row} {u : List D} {L0 : Int} {v4 v5 v6 v7 v8 s9 s10 v11 v12 : Sl} (ga : ∀ p ∈ a, GoodR p) (gb : ∀ p ∈ b, GoodR p) (la : 1 ≤ a.length) (la' : a.length ≤ 4) (lb' : b.length ≤ 4) (hL0 : minL (a.map fun p => p.1 - p.2 + 1) = L0) (f9 : s9.free = true) :
    ∃ τ', forL (sBody (gNm 15) (sSeq (sSet 9 (sLst (sCons (frz (sCall den_how_many_paths (sBCons (toB (frz (sVar 3))) (sBCons (toB (frz (sOp2 gAdd (toB (frz (sCB (g1 gLen) (sBCons (sRd 1) sBNil)))) (sRd 15)))) sBNil)))) (sCons (frz (sCall den_fewest_lost (sBCons (toB (frz (sVar 3))) (sBCons (toB (frz (sOp2 gAdd (toB (frz (sCB (g1 gLen) (sBCons (sRd 1) sBNil)))) (sRd 15)))) sBNil)))) sNil)))) (sIfS (sNot (sTru (toB (frz (sCall (den__law_same 12) (sBCons (toB (frz (sVar 9))) (sBCons (toB (frz (sLst (sCons (frz (sOp2 gMul (sRd 13) (toB (frz (sCall den_how_many_paths (sBCons (toB (frz (sVar 2))) (sBCons (toB (frz (sVar 15))) sBNil))))))) (sCons (frz (sCB gMin (sBCons (sRd 14) (sBCons (toB (frz (sCall den_fewest_lost (sBCons (toB (frz (sVar 2))) (sBCons (toB (frz (sVar 15))) sBNil))))) sBNil)))) sNil))))) sBNil))))))) (sRet (sC (.bl false))) sNext)))
      (rng 0 b.length) [.io (.l u), .val (rD a), .val (rD b), .val (rD (a ++ b)), v4, v5, v6, v7, v8, s9, s10, v11, v12, .val (.int (pth a)), .val (.int L0), .no] = .nx τ' ∧ ∃ s9 s15, τ' = [.io (.l u), .val (rD a), .val (rD b), .val (rD (a ++ b)), v4, v5, v6, v7, v8, s9, s10, v11, v12, .val (.int (pth a)), .val (.int L0), s15] ∧ s9.free = true ∧ s15.free = true := by
  refine forL_inv (P := fun τ' => ∃ s9 s15, τ' = [.io (.l u), .val (rD a), .val (rD b), .val (rD (a ++ b)), v4, v5, v6, v7, v8, s9, s10, v11, v12, .val (.int (pth a)), .val (.int L0), s15] ∧ s9.free = true ∧ s15.free = true) _ _ (fun d hd τ hτ => ?_) ⟨_, _, rfl, f9, rfl⟩
  obtain ⟨s9, s15, rfl, f9, f15⟩ := hτ
  obtain ⟨m, hm, rfl⟩ := rng_mem hd
  have lab : (a ++ b).length = a.length + b.length := List.length_append
  have gab : ∀ p ∈ a ++ b, GoodR p := fun p hp => (List.mem_append.mp hp).elim (ga p) (gb p)
  have hlt : a.length + m < (a ++ b).length := by omega
  have x1 := paths_ok (ss := a ++ b) (k := a.length + m) hlt (by omega) gab
  rw [take_ab, pth_append, cast_ab] at x1
  have x2 := paths_ok (ss := b) (k := m) hm (by omega) gb
  have y1 := lost_ok (ss := a ++ b) (k := a.length + m) hlt (by omega)
  have y2 := lost_ok (ss := b) (k := m) hm (by omega)
  rw [get_ab a b m hm hlt, cast_ab, lost_ab la, hL0] at y1
  have b1 := pth_bits a ga
  have b2 := pth_bits (b.take m) (fun p hp => gb p (List.mem_of_mem_take hp))
  have cm := cMul_bits b1 b2 (by rw [List.length_take]; omega)
  generalize lostV b m b[m] = Lb at *
  have sm := same12 (d := .lst [.int (pth a * pth (b.take m)), .int (if Lb < L0 then Lb else L0)]) (by rfl)
  refine ⟨_, ?_, .val (.lst [.int (pth a * pth (b.take m)), .int (if Lb < L0 then Lb else L0)]), .val (.int m), rfl, rfl, rfl⟩
  simp only [evl, evl2, evl3, evl4, prim, slotsE, f9, f15, if_true, nd0, lenR, x1, x2, y1, y2, cm, sm, limE, Bool.not_true, Bool.false_eq_true, if_false, List.length_cons, List.length_nil, Nat.reduceAdd]
theorem two_ok {k : Nat} {u : List D} {a b : List Row} (hu : Urn k u) (hk : k + 10 < 2 ^ 60) (ga : ∀ p ∈ a, GoodR p) (gb : ∀ p ∈ b, GoodR p) (la : 1 ≤ a.length) (la' : a.length ≤ 4) (lb : 1 ≤ b.length) (lb' : b.length ≤ 4) :
    ∃ u', Urn (k + 2) u' ∧ den__law_two_right [.io (.l u), .val (rD a), .val (rD b)] = .ok (.d (.bl true)) [.io (.l u'), .no, .no] := by
  have gab : ∀ p ∈ a ++ b, GoodR p := fun p hp => (List.mem_append.mp hp).elim (ga p) (gb p)
  have pos : ∀ {ss : List Row}, (∀ p ∈ ss, GoodR p) → 1 ≤ ss.length → ss.length ≤ 4 → 0 < many ss ∧ many ss ≤ 10 ^ 30 * 4 := fun {ss} hg h1 h4 => by
    have ub : ∀ {ss : List Row}, (∀ p ∈ ss, GoodR p) → many ss ≤ 10 ^ 30 * ss.length := fun {ss} => by
      induction ss with
      | nil => intro _; simp [many]
      | cons p ss ih =>
        intro h
        have := ih fun q hq => h q (List.mem_cons_of_mem _ hq)
        have := (h p (List.mem_cons_self ..)).hi
        rw [many_cons, List.length_cons]
        omega
    have := ub hg
    cases ss with
    | nil => simp at h1
    | cons p ss =>
      have g := hg p (List.mem_cons_self ..)
      have := many_nonneg (ss := ss) fun q hq => hg q (List.mem_cons_of_mem _ hq)
      rw [many_cons] at *
      have := g.lo; have := g.le
      rw [List.length_cons] at *
      omega
  have pa := pos ga la la'
  have pb := pos gb lb lb'
  obtain ⟨o, u1, o0, o1, hu1, e1⟩ := take_ok (n := many a) hu (by omega) pa.1 (log2_few (by omega))
  obtain ⟨t, u2, t0, t1, hu2, e2⟩ := take_ok (n := many b) hu1 (by omega) pb.1 (log2_few (by omega))
  obtain ⟨i, hi⟩ := sof_some ga o0 o1
  obtain ⟨j, hj⟩ := sof_some gb t0 t1
  have il := sof_lt hi
  have jl := sof_lt hj
  have hi2 := sof_left (b := b) hi
  have hj2 := sof_right (a := a) ga t0 hj
  have lab : (a ++ b).length ≤ 1000 := by rw [List.length_append]; omega
  have gp := ga _ (List.getElem_mem il)
  -- the calls
  have cA := units_ok (ss := a) (by omega)
  have cB := units_ok (ss := b) (by omega)
  have cAB := units_ok (ss := a ++ b) lab
  rw [many_append] at cAB
  have sA := stage_ok hi
  have sB := stage_ok hj
  have sAB := stage_ok hi2
  have sAB2 := stage_ok hj2
  rw [show ((a.length + j : Nat) : Int) = (a.length : Int) + (j : Int) by omega] at sAB2
  have eA := early_ok hi (by omega)
  have eB := early_ok hj (by omega)
  have eAB := early_ok hi2 lab
  rw [show (a ++ b).take i = a.take i from List.take_append_of_le_length (by omega)] at eAB
  have eAB2 := early_ok hj2 lab
  rw [show (a ++ b).take (a.length + j) = a ++ b.take j by rw [List.take_append, List.take_of_length_le (by omega)]; congr 1; congr 1; omega, few_append] at eAB2
  have lA := late_ok hi (by omega)
  have lB := late_ok hj (by omega)
  have lAB := late_ok hi2 lab
  have lAB2 := late_ok hj2 lab
  have hgi : (a ++ b)[i]'(sof_lt hi2) = a[i] := List.getElem_append_left il
  have hgj : (a ++ b)[a.length + j]'(sof_lt hj2) = b[j] := by rw [List.getElem_append_right (by omega)]; congr 1; omega
  rw [hgi] at lAB
  rw [hgj] at lAB2
  have hA1 := ahead_ok hi2 hj2
  have hA2 := ahead_ok hj2 hi2
  rw [hgi] at hA1
  rw [hgj] at hA2
  have ij : i < a.length + j := by omega
  have ji : ¬ a.length + j < i := by omega
  simp only [ij, ji, decide_true, decide_false, Bool.true_and, Bool.false_and] at hA1 hA2
  have hr := rix il
  generalize hp : a[i]'il = p at *
  generalize hq : b[j]'jl = q at *
  have lv1 : lateV (a ++ b) i p = lateV a i p + many b * (if decide (p.2 < p.1) then 1 else 0) := by
    unfold lateV
    have := gp.le
    rw [many_append]
    by_cases c : p.2 = p.1
    · rw [if_pos c, if_pos c, List.drop_append_of_le_length (by omega), many_append]
      have : ¬ p.2 < p.1 := by omega
      simp [this]; omega
    · rw [if_neg c, if_neg c]
      have : p.2 < p.1 := by omega
      simp [this]; omega
  have lv2 : lateV (a ++ b) (a.length + j) q = many a + lateV b j q := by
    unfold lateV
    rw [many_append]
    have : (a ++ b).drop (a.length + j + 1) = b.drop (j + 1) := by
      rw [List.drop_append, List.drop_of_length_le (by omega)]
      simp
      congr 1; omega
    rw [this]; omega
  rw [lv1] at lAB
  rw [lv2] at lAB2
  have hcm : compL (turnC (gTp 2 (gN1 (gNm 11) (gN1 (gNm 12) gN0))) (fun τ => .ok true τ) (frz (sVar 12)) [11, 12]) (a.map pD) [.io (.l u2), .val (rD a), .val (rD b), .val (rD (a ++ b)), .val (.int (many a)), .val (.int (many b)), .val (.int o), .val (.int t), .no, .no, .no, .no, .no, .no, .no, .no] [] = .ok (a.map fun p => .int p.2) [.io (.l u2), .val (rD a), .val (rD b), .val (rD (a ++ b)), .val (.int (many a)), .val (.int (many b)), .val (.int o), .val (.int t), .no, .no, .no, .no, .no, .no, .no, .no] :=
    compL_over a (fun p _ => by simp only [pD, evl, evl2, evl3, evl4, prim, slotsE, List.length_cons, List.length_nil, if_true]) (lim_big (by omega))
  have hs : gSum2 (.lst (a.map fun p => .int p.2)) = some (.d (.int (few a))) := gSum_map _ a
  have mm : ∀ (x : Int) (b : Bool), cMul x (if b then 1 else 0) = true := fun x b => cMul_r (by cases b <;> decide)
  have dq : decide (p.1 = p.2) = (p.1 == p.2) := by by_cases z : p.1 = p.2 <;> simp [z]
  rw [dq] at hA1
  have same1 := same12 (d := .lst [.int (many a + many b), .int i, .int (a.length + j), .int (few (a.take i)), .int (few a + few (b.take j)), .int (many a + lateV b j q), .int (lateV a i p + many b * (if decide (p.2 < p.1) then 1 else 0)), .bl (p.1 == p.2), .bl false]) (by rfl)
  -- ways and least
  have hadd1 : gAdd (rD a) (.tup [.tup [.int 1, .int 1]]) = some (.d (rD (a ++ [(1, 1)]))) := addR (b := [(1, 1)]) (by simp; omega)
  have g11 : GoodR (1, 1) := ⟨by decide, by decide, by decide, .inl rfl⟩
  have w1 := paths_ok (ss := a ++ [(1, 1)]) (k := a.length) (by simp) (by simp; omega) (fun p hp => (List.mem_append.mp hp).elim (ga p) fun z => by rw [List.mem_singleton.mp z]; exact g11)
  rw [show (a ++ [((1 : Int), (1 : Int))]).take a.length = a by simp] at w1
  have hmn : gMin [.lst (a.map fun p => D.int (p.1 - p.2 + 1))] = some (.d (.int (minL (a.map fun p => p.1 - p.2 + 1)))) := by
    have := gMin_ints (ns := a.map fun p : Row => p.1 - p.2 + 1) (by
      intro z
      have : a = [] := by simpa using z
      rw [this] at la; simp at la)
    rw [List.map_map] at this
    exact this
  refine ⟨u2, hu2, ?_⟩
  generalize hL0 : minL (a.map fun p => p.1 - p.2 + 1) = L0 at *
  obtain ⟨τ', e, s9, s15, rfl, _⟩ := two_loop (u := u2) (s10 := .val (.lst [.int (many a + many b), .int i, .int (a.length + j), .int (few (a.take i)), .int (few a + few (b.take j)), .int (many a + lateV b j q), .int (lateV a i p + many b * (if decide (p.2 < p.1) then 1 else 0)), .bl (p.1 == p.2), .bl false])) (s9 := .val (.lst [.int (many a + many b), .int i, .int (a.length + j), .int (few (a.take i)), .int (few a + few (b.take j)), .int (many a + lateV b j q), .int (lateV a i p + many b * (if decide (p.2 < p.1) then 1 else 0)), .bl (p.1 == p.2), .bl false])) (v4 := .val (.int (many a))) (v5 := .val (.int (many b))) (v6 := .val (.int o)) (v7 := .val (.int t)) (v8 := .val (.int (few a))) (v11 := .val (.int p.1)) (v12 := .val (.int p.2)) ga gb la la' lb' hL0 rfl
  have hab : gAdd (rD a) (rD b) = some (.d (rD (a ++ b))) := addR (by omega)
  have hcmL : compL (turnC (gTp 2 (gN1 (gNm 11) (gN1 (gNm 12) gN0))) (fun τ => .ok true τ) (frz (sOp2 gAdd (toB (frz (sOp2 (gInt (fun _ _ => true) fun i j => i - j) (sRd 11) (sRd 12)))) (toB (frz (sC (.int 1)))))) [11, 12]) (a.map pD) [.io (.l u2), .val (rD a), .val (rD b), .val (rD (a ++ b)), .val (.int (many a)), .val (.int (many b)), .val (.int o), .val (.int t), .val (.int (few a)), .val (.lst [.int (many a + many b), .int i, .int (a.length + j), .int (few (a.take i)), .int (few a + few (b.take j)), .int (many a + lateV b j q), .int (lateV a i p + many b * (if decide (p.2 < p.1) then 1 else 0)), .bl (p.1 == p.2), .bl false]), .val (.lst [.int (many a + many b), .int i, .int (a.length + j), .int (few (a.take i)), .int (few a + few (b.take j)), .int (many a + lateV b j q), .int (lateV a i p + many b * (if decide (p.2 < p.1) then 1 else 0)), .bl (p.1 == p.2), .bl false]), .no, .no, .val (.int (pth a)), .no, .no] []
      = .ok (a.map fun p => .int (p.1 - p.2 + 1)) [.io (.l u2), .val (rD a), .val (rD b), .val (rD (a ++ b)), .val (.int (many a)), .val (.int (many b)), .val (.int o), .val (.int t), .val (.int (few a)), .val (.lst [.int (many a + many b), .int i, .int (a.length + j), .int (few (a.take i)), .int (few a + few (b.take j)), .int (many a + lateV b j q), .int (lateV a i p + many b * (if decide (p.2 < p.1) then 1 else 0)), .bl (p.1 == p.2), .bl false]), .val (.lst [.int (many a + many b), .int i, .int (a.length + j), .int (few (a.take i)), .int (few a + few (b.take j)), .int (many a + lateV b j q), .int (lateV a i p + many b * (if decide (p.2 < p.1) then 1 else 0)), .bl (p.1 == p.2), .bl false]), .no, .no, .val (.int (pth a)), .no, .no] :=
    compL_over a (fun p _ => by simp only [pD, evl, evl2, evl3, evl4, prim, slotsE, List.length_cons, List.length_nil, if_true]) (lim_big (by omega))
  show DR.of (f__law_two_right [.io (.l u), .val (rD a), .val (rD b), .no, .no, .no, .no, .no, .no, .no, .no, .no, .no, .no, .no, .no]) [.io (.l u), .val (rD a), .val (rD b)] = _
  unfold f__law_two_right
  refine run_seq (by simp only [evl, evl2, evl3, evl4, prim, slotsE, nd0, nd1, if_true, limE, List.length_cons, List.length_nil, Nat.reduceAdd, hab, cA, cB]; rfl) ?_
  refine run_seq (by simp only [evl, evl2, evl3, evl4, prim, slotsE, nd0, nd1, if_true, limE, List.length_cons, List.length_nil, Nat.reduceAdd, e1, e2]; rfl) ?_
  refine run_seq (by simp only [evl, evl2, evl3, evl4, prim, slotsE, nd0, nd1, if_true, limE, List.length_cons, List.length_nil, Nat.reduceAdd, itemsR, hcm, hs]; rfl) ?_
  refine run_seq (by simp only [evl, evl2, evl3, evl4, prim, slotsE, nd0, nd1, if_true, limE, List.length_cons, List.length_nil, Nat.reduceAdd, cAB, sAB, sAB2]; rfl) ?_
  refine run_seq (by simp only [evl, evl2, evl3, evl4, prim, slotsE, nd0, nd1, if_true, limE, List.length_cons, List.length_nil, Nat.reduceAdd, eAB]; rfl) ?_
  refine run_seq (by simp only [evl, evl2, evl3, evl4, prim, slotsE, nd0, nd1, if_true, limE, List.length_cons, List.length_nil, Nat.reduceAdd, sA, lenR, sB]; rfl) ?_
  refine run_seq (by simp only [evl, evl2, evl3, evl4, prim, slotsE, nd0, nd1, if_true, limE, List.length_cons, List.length_nil, Nat.reduceAdd, eA]; rfl) ?_
  refine run_seq (by simp only [evl, evl2, evl3, evl4, prim, slotsE, nd0, nd1, if_true, limE, List.length_cons, List.length_nil, Nat.reduceAdd, eAB2, lAB2]; rfl) ?_
  refine run_seq (by simp only [evl, evl2, evl3, evl4, prim, slotsE, nd0, nd1, if_true, limE, List.length_cons, List.length_nil, Nat.reduceAdd, eB, lB]; rfl) ?_
  refine run_seq (by simp only [evl, evl2, evl3, evl4, prim, slotsE, nd0, nd1, if_true, limE, List.length_cons, List.length_nil, Nat.reduceAdd, sA, hr, pD]; rfl) ?_
  refine run_seq (by simp only [evl, evl2, evl3, evl4, prim, slotsE, nd0, nd1, if_true, limE, List.length_cons, List.length_nil, Nat.reduceAdd, lAB, hA1]; rfl) ?_
  refine run_seq (by simp only [evl, evl2, evl3, evl4, prim, slotsE, nd0, nd1, if_true, limE, List.length_cons, List.length_nil, Nat.reduceAdd, hA2]; rfl) ?_
  refine run_seq (by simp only [evl, evl2, evl3, evl4, prim, slotsE, nd0, nd1, if_true, limE, List.length_cons, List.length_nil, Nat.reduceAdd, lA, mm, Bool.false_bne]; rfl) ?_
  refine run_seq (by simp only [evl, evl2, evl3, evl4, prim, slotsE, nd0, nd1, if_true, limE, List.length_cons, List.length_nil, Nat.reduceAdd, same1, Bool.not_true, Bool.false_eq_true, if_false]; rfl) ?_
  refine run_seq (by simp only [evl, evl2, evl3, evl4, prim, slotsE, nd0, nd1, if_true, limE, List.length_cons, List.length_nil, Nat.reduceAdd, hadd1, w1, lenR]; rfl) ?_
  refine run_seq (by simp only [evl, evl2, evl3, evl4, prim, slotsE, nd0, nd1, if_true, limE, List.length_cons, List.length_nil, Nat.reduceAdd, itemsR, hcmL, hmn]; rfl) ?_
  refine run_seq (by simp only [evl, evl2, evl3, evl4, prim, slotsE, nd0, nd1, if_true, limE, List.length_cons, List.length_nil, Nat.reduceAdd, lenR, small62 (show b.length ≤ 1000 by omega), toNatI, e]; rfl) ?_
  simp only [evl, evl2, evl3, evl4, prim, slotsE, nd0, nd1, if_true, limE, List.length_cons, List.length_nil, Nat.reduceAdd]
end U
end

section
set_option Elab.async false
set_option linter.all false
set_option maxRecDepth 100000
namespace U
open PySem PySem.Spec PyProof.Rows L2
theorem draw_loop {v1 v2 v3 v4 v5 v6 v7 v9 : Sl} : ∀ (ds : List D) (k : Nat) (u acc : List D), Urn k u → k + ds.length < 2 ^ 60 → acc.length + ds.length ≤ 100 → ∃ (u' : List D) (xs : List Int), Urn (k + ds.length) u' ∧ xs.length = ds.length ∧
    compL (turnC (gNm 8) (fun τ => .ok true τ) (frz (sCall den__law_take (sBCons (sRd 0) (sBCons (toB (frz (sOp2 (gInt cPow fun i j => i ^ j.toNat) (toB (frz (sC (.int 10)))) (toB (frz (sC (.int 20))))))) (sBNil))))) [8]) ds [.own (.l u), v1, v2, v3, v4, v5, v6, v7, .no, v9] acc
      = .ok (acc ++ xs.map D.int) [.own (.l u'), v1, v2, v3, v4, v5, v6, v7, .no, v9]
  | [], k, u, acc, hu, _, _ => ⟨u, [], hu, rfl, by simp [compL]⟩
  | d :: ds, k, u, acc, hu, hk, hl => by
    rw [List.length_cons] at hk hl
    obtain ⟨a, u1, a0, a1, hu1, e1⟩ := take_ok (n := 10 ^ 20) hu (by omega) (by decide) (by decide)
    obtain ⟨u', xs, h1, h2, h3⟩ := draw_loop (v1 := v1) (v2 := v2) (v3 := v3) (v4 := v4) (v5 := v5) (v6 := v6) (v7 := v7) (v9 := v9) ds (k + 1) u1 (acc ++ [.int a]) hu1 (by omega) (by rw [List.length_append, List.length_singleton]; omega)
    refine ⟨u', a :: xs, h1.mono (by rw [List.length_cons]; omega), by rw [List.length_cons, List.length_cons, h2], ?_⟩
    have hlt : acc.length < lim := Nat.lt_of_lt_of_le (show acc.length < 200 by omega) (by decide)
    have hp : cPow 10 20 = true := by decide
    have step : turnC (gNm 8) (fun τ => .ok true τ) (frz (sCall den__law_take (sBCons (sRd 0) (sBCons (toB (frz (sOp2 (gInt cPow fun i j => i ^ j.toNat) (toB (frz (sC (.int 10)))) (toB (frz (sC (.int 20))))))) (sBNil))))) [8] d [.own (.l u), v1, v2, v3, v4, v5, v6, v7, .no, v9] = .ok (some (.int a)) [.own (.l u1), v1, v2, v3, v4, v5, v6, v7, .no, v9] := by
      have e1' : den__law_take [.io (.l u), .val (.int (10 ^ (20 : Int).toNat))] = .ok (.d (.int a)) [.io (.l u1), .no] := e1
      simp only [evl, evl2, evl3, evl4, prim, slotsE, if_true, hp, nd1, e1']
    show (match turnC _ _ _ _ d _ with
      | .ok (some z) τ1 => if acc.length < lim then compL _ ds τ1 (acc ++ [z]) else .stuck
      | .ok none τ1 => compL _ ds τ1 acc
      | _ => .stuck) = _
    rw [step]
    show (if acc.length < lim then compL _ ds _ (acc ++ [.int a]) else .stuck) = _
    rw [if_pos hlt, h3]
    simp
def pre (xs : List Int) (n : Nat) : List Int := (List.range n).map fun k => (xs.take (k + 1)).sum
theorem at_end {α : Type} {xs : List α} {x : α} : atI (xs ++ [x]) (-1) = some x := by
  unfold atI ixN
  have h0 : ¬ (0 : Int) ≤ -1 := by omega
  have hl : (xs ++ [x]).length = xs.length + 1 := by simp
  have h1 : -((xs ++ [x]).length : Int) ≤ -1 := by rw [hl]; omega
  rw [if_neg h0, if_pos h1]
  have : ((-1 : Int) + ((xs ++ [x]).length : Int)).toNat = xs.length := by rw [hl]; omega
  rw [this]
  simp
theorem pre_succ (xs : List Int) (n : Nat) : pre xs (n + 1) = pre xs n ++ [(xs.take (n + 1)).sum] := by
  unfold pre; rw [List.range_succ, List.map_append]; rfl
theorem goal_loop {xs : List Int} (hx : xs.length ≤ 100) {v1 v2 v3 v4 v5 v6 v9 : Sl} {u : List D} : ∀ (ys : List Int) (j : Nat) (s8 : Sl), xs.drop (j + 1) = ys → j + 1 + ys.length = xs.length → (s8 = .no ∨ ∃ d, s8 = .val d) → ∃ s8', (s8' = .no ∨ ∃ d, s8' = .val d) ∧
    forL (sBody (gNm 8) (sDrop (sMeth 7 mAppend (sCons (frz (sOp2 gAdd (toB (frz (sOp2 gIx (sRd 7) (toB (frz (sNeg (frz (sC (.int 1))))))))) (sRd 8))) (sNil))))) (ys.map D.int) [.own (.l u), v1, v2, v3, v4, v5, v6, .own (.l ((pre xs (j + 1)).map D.int)), s8, v9]
      = .nx [.own (.l u), v1, v2, v3, v4, v5, v6, .own (.l ((pre xs xs.length).map D.int)), s8', v9]
  | [], j, s8, _, h, c8 => by
    refine ⟨s8, c8, ?_⟩
    rw [List.length_nil] at h
    rw [← h]; rfl
  | y :: ys, j, s8, hd, h, c8 => by
    have f8 : s8.free = true := by rcases c8 with rfl | ⟨_, rfl⟩ <;> rfl
    rw [List.length_cons] at h
    have hlt : j + 1 < xs.length := by omega
    have hy : xs[j + 1] = y := by
      have e := List.drop_eq_getElem_cons hlt
      rw [hd] at e
      exact (List.cons.inj e).1.symm
    have hd2 : xs.drop (j + 1 + 1) = ys := by
      have e := List.drop_eq_getElem_cons hlt
      rw [hd] at e
      exact (List.cons.inj e).2.symm
    obtain ⟨s8', c8', ih⟩ := goal_loop hx (v1 := v1) (v2 := v2) (v3 := v3) (v4 := v4) (v5 := v5) (v6 := v6) (v9 := v9) (u := u) ys (j + 1) (.val (.int y)) hd2 (by omega) (.inr ⟨_, rfl⟩)
    refine ⟨s8', c8', ?_⟩
    have hsum : (xs.take (j + 1)).sum + y = (xs.take (j + 1 + 1)).sum := by
      rw [List.take_succ_eq_append_getElem hlt, List.sum_append, hy]; simp
    have ha : atI ((pre xs (j + 1)).map D.int) (-1) = some (.int (xs.take (j + 1)).sum) := by
      rw [pre_succ, List.map_append]; exact at_end
    have hll : (((pre xs (j + 1)).map D.int).length < lim) = True := eq_true (by
      have : ((pre xs (j + 1)).map D.int).length = j + 1 := by simp [pre]
      rw [this]; exact Nat.lt_of_lt_of_le (show j + 1 < 200 by omega) (by decide))
    rw [List.map_cons, forL_step (τ1 := [.own (.l u), v1, v2, v3, v4, v5, v6, .own (.l ((pre xs (j + 1 + 1)).map D.int)), .val (.int y), v9])]
    · exact ih
    · rw [pre_succ xs (j + 1), List.map_append, ← hsum]
      simp only [evl, evl2, evl3, evl4, prim, slotsE, f8, if_true, ha, hll]
      rfl
theorem pre_len (xs : List Int) (n : Nat) : (pre xs n).length = n := by simp [pre]

def b_right : T → SR :=
  sSeq (sSet 2 (sCall den__law_of (sBCons (sRd 0) (sBCons (toB (frz (sLst (sCons (frz (sC (.int 3))) (sCons (frz (sOp2 (gInt cPow fun i j => i ^ j.toNat) (toB (frz (sC (.int 10)))) (toB (frz (sC (.int 30)))))) (sNil)))))) (sBNil))))) (sSeq (sUnp (gTp 2 (gN1 (gNm 3) (gN1 (gNm 4) (gN0)))) (frz (sTup (sCons (frz (sCall den__law_stages (sBCons (sRd 0) (sBCons (toB (frz (sVar 2))) (sBCons (toB (frz (sC (.int 4)))) (sBNil)))))) (sCons (frz (sCall den__law_stages (sBCons (sRd 0) (sBCons (toB (frz (sVar 2))) (sBCons (toB (frz (sC (.int 4)))) (sBNil)))))) (sNil)))))) (sSeq (sIfS (sOr (sNot (sTru (toB (frz (sCall den__law_two_right (sBCons (sRd 0) (sBCons (toB (frz (sVar 3))) (sBCons (toB (frz (sVar 4))) (sBNil))))))))) (sNot (sTru (toB (frz (sCall den__law_losses_right (sBCons (toB (frz (sOp2 gAdd (sRd 3) (sRd 4)))) (sBNil)))))))) (sRet (sC (.bl false))) (sNext)) (sSeq (sSet 5 (sCB (g1 gTuple) (sBCons (toB (frz (sLc (sItems (frz (sOp2 gAdd (sRd 3) (sRd 4)))) (gNm 8) (fun τ => .ok true τ) (frz (sCall den__law_take (sBCons (sRd 0) (sBCons (toB (frz (sOp2 (gInt cPow fun i j => i ^ j.toNat) (toB (frz (sC (.int 10)))) (toB (frz (sC (.int 20))))))) (sBNil))))) [8]))) (sBNil)))) (sSeq (sSet 6 (sLc (sRng1 (sCons (frz (sCB (g1 gLen) (sBCons (sRd 5) (sBNil)))) (sNil))) (gNm 9) (fun τ => .ok true τ) (frz (sCall den_time_up (sBCons (toB (frz (sOp2 gAdd (sRd 3) (sRd 4)))) (sBCons (toB (frz (sVar 5))) (sBCons (toB (frz (sVar 9))) (sBNil)))))) [9])) (sSeq (sSet 7 (sLst (sCons (frz (sOp2 gIx (sRd 5) (toB (frz (sC (.int 0)))))) (sNil)))) (sSeq (sFor (sItems (frz (sSl (sRd 5) (sSmP (frz (sC (.int 1)))) (sNoP)))) (gNm 8) (sDrop (sMeth 7 mAppend (sCons (frz (sOp2 gAdd (toB (frz (sOp2 gIx (sRd 7) (toB (frz (sNeg (frz (sC (.int 1))))))))) (sRd 8))) (sNil))))) (sIfS (sNot (sTru (toB (frz (sCall (den__law_same 12) (sBCons (toB (frz (sVar 6))) (sBCons (toB (frz (sVar 7))) (sBNil)))))))) (sRet (sC (.bl false))) (sNext))))))))
theorem f_right_eq : f__law_right = (sSeq (sIfS (sNot (sTru (toB (frz (sCall den__law_by_hand_right sBNil))))) (sRet (sC (.bl false))) (sNext)) (sSeq (sFor (sRng1 (sCons (frz (sC (.int 8))) (sNil))) (gNm 1) b_right) (sRet (sC (.bl true))))) := rfl
theorem seq_nx {S R : T → SR} {τ t : T} {X : SR} (h : S τ = .nx t) (h2 : R t = X) : sSeq S R τ = X := by
  show (S τ).then R = X
  rw [h]; exact h2
theorem rest8 {s0 s1 s2 s3 s4 s5 s6 s7 s8 s9 t0 t1 t2 t3 t4 t5 t6 t7 t9 : Sl} (h : s8 = .no ∨ ∃ d, s8 = .val d) : restT [s0, s1, s2, s3, s4, s5, s6, s7, s8, s9] [8] [t0, t1, t2, t3, t4, t5, t6, t7, .no, t9] = [t0, t1, t2, t3, t4, t5, t6, t7, s8, t9] := by
  rcases h with rfl | ⟨d, rfl⟩ <;> rfl
theorem rD_len (ss : List Row) : (D.tup (ss.map pD)).items = some (ss.map pD) := rfl
theorem st3 {u3 u4 : List D} {d : D} {cap : Int} {a b : List Row} {s5 s6 s7 s8 : Sl} {dT dL : List Sl → DR} (e4 : dT [.io (.l u3), .val (rD a), .val (rD b)] = .ok (.d (.bl true)) [.io (.l u4), .no, .no])
   (hab : gAdd (rD a) (rD b) = some (.d (rD (a ++ b)))) (e5 : dL [.val (rD (a ++ b))] = .ok (.d (.bl true)) [.no]) : sIfS (sOr (sNot (sTru (toB (frz (sCall dT (sBCons (sRd 0) (sBCons (toB (frz (sVar 3))) (sBCons (toB (frz (sVar 4))) (sBNil))))))))) (sNot (sTru (toB (frz (sCall dL (sBCons (toB (frz (sOp2 gAdd (sRd 3) (sRd 4)))) (sBNil)))))))) (sRet (sC (.bl false))) (sNext) [.own (.l u3), .val d, .val (.int cap), .val (rD a), .val (rD b), s5, s6, s7, s8, .no] = .nx [.own (.l u4), .val d, .val (.int cap), .val (rD a), .val (rD b), s5, s6, s7, s8, .no] := by
  simp only [evl, evl2, evl3, evl4, prim, slotsE, nd0, nd1, if_true, e4, hab, e5, Bool.not_true, Bool.false_eq_true, if_false]
theorem turn_ok {k : Nat} {u : List D} (hu : Urn k u) (hk : k + 200 < 2 ^ 60) (d : D) (s2 s3 s4 s5 s6 s7 s8 : Sl) (f2 : s2.free = true) (f3 : s3.free = true) (f4 : s4.free = true) (f5 : s5.free = true) (f6 : s6.free = true) (f7 : s7.free = true) (c8 : s8 = .no ∨ ∃ d, s8 = .val d) :
   ∃ (u' : List D) (t2 t3 t4 t5 t6 t7 t8 : Sl), Urn (k + 100) u' ∧ t2.free = true ∧ t3.free = true ∧ t4.free = true ∧ t5.free = true ∧ t6.free = true ∧ t7.free = true ∧ (t8 = .no ∨ ∃ d, t8 = .val d) ∧ b_right [.own (.l u), .val d, s2, s3, s4, s5, s6, s7, s8, .no] = .nx [.own (.l u'), .val d, t2, t3, t4, t5, t6, t7, t8, .no] := by
  have f8 : s8.free = true := by rcases c8 with rfl | ⟨_, rfl⟩ <;> rfl
  obtain ⟨c, u1, hc, hu1, e1⟩ := of_ok (ds := [.int 3, .int (10 ^ 30)]) hu (by omega) (by simp) (by simp)
  have hcap : ∃ cap : Int, c = .int cap ∧ 1 ≤ cap ∧ cap ≤ 10 ^ 30 := by
    simp only [List.mem_cons, List.not_mem_nil, or_false] at hc
    rcases hc with rfl | rfl
    · exact ⟨3, rfl, by decide, by decide⟩
    · exact ⟨_, rfl, by decide, Int.le_refl _⟩
  obtain ⟨cap, rfl, cp1, cp2⟩ := hcap
  obtain ⟨u2, a, hu2, ga, la, la', e2⟩ := stages_ok hu1 (by omega) cp1 cp2
  obtain ⟨u3, b, hu3, gb, lb, lb', e3⟩ := stages_ok hu2 (by omega) cp1 cp2
  obtain ⟨u4, hu4, e4⟩ := two_ok hu3 (by omega) ga gb la la' lb lb'
  have gab : ∀ p ∈ a ++ b, GoodR p := fun p hp => (List.mem_append.mp hp).elim (ga p) (gb p)
  have lab : (a ++ b).length = a.length + b.length := List.length_append
  have e5 := losses_ok gab (by omega)
  have hab : gAdd (rD a) (rD b) = some (.d (rD (a ++ b))) := addR (by omega)
  have hp30 : cPow 10 30 = true := by decide
  obtain ⟨u5, xs, hu5, hxl, e6⟩ := draw_loop (v1 := .val d) (v2 := .val (.int cap)) (v3 := .val (rD a)) (v4 := .val (rD b)) (v5 := s5) (v6 := s6) (v7 := s7) (v9 := .no) ((a ++ b).map pD) (k + 1 + 13 + 13 + 2) u4 [] hu4 (by rw [List.length_map]; omega) (by rw [List.length_map, List.length_nil]; omega)
  rw [List.length_map] at hxl hu5
  rw [List.nil_append] at e6
  have hn : xs.length ≤ 8 := by omega
  have hn1 : 1 ≤ xs.length := by omega
  -- got
  have e7 : compL (turnC (gNm 9) (fun τ => .ok true τ) (frz (sCall den_time_up (sBCons (toB (frz (sOp2 gAdd (sRd 3) (sRd 4)))) (sBCons (toB (frz (sVar 5))) (sBCons (toB (frz (sVar 9))) (sBNil)))))) [9]) (rng 0 xs.length) [.own (.l u5), .val d, .val (.int cap), .val (rD a), .val (rD b), .val (.tup (xs.map D.int)), s6, s7, s8, .no] []
      = .ok ((pre xs xs.length).map D.int) [.own (.l u5), .val d, .val (.int cap), .val (rD a), .val (rD b), .val (.tup (xs.map D.int)), s6, s7, s8, .no] := by
    have hr : rng 0 xs.length = (List.range xs.length).map fun (j : Nat) => D.int (j : Int) := by
      unfold rng; exact List.map_congr_left fun j _ => by rw [Int.zero_add]
    rw [hr, compL_over (h := fun j => D.int (xs.take (j + 1)).sum) (List.range xs.length) (fun j hj => ?_) (lim_big (by rw [List.length_range]; omega))]
    · unfold pre; rw [List.map_map]; rfl
    · have ht := timeup_ok (ss := a ++ b) (ds := xs) (k := j) (by have := List.mem_range.mp hj; omega)
      simp only [evl, evl2, evl3, evl4, prim, slotsE, if_true, hab, nd0, ht]
  obtain ⟨x, xs', rfl⟩ : ∃ x xs', xs = x :: xs' := by
    cases xs with
    | nil => simp at hn1
    | cons x xs' => exact ⟨x, xs', rfl⟩
  have hp1 : (pre (x :: xs') 1).map D.int = [.int x] := by simp [pre]
  obtain ⟨s8', c8', e8⟩ := goal_loop (xs := x :: xs') (by omega) (v1 := .val d) (v2 := .val (.int cap)) (v3 := .val (rD a)) (v4 := .val (rD b)) (v5 := .val (.tup ((x :: xs').map D.int))) (v6 := .own (.l ((pre (x :: xs') (x :: xs').length).map D.int))) (v9 := .no) (u := u5) xs' 0 s8 rfl (by rw [List.length_cons]; omega) c8
  rw [Nat.zero_add, hp1] at e8
  have hsame := same12 (d := .lst ((pre (x :: xs') (x :: xs').length).map D.int)) (by
    show (decide (((pre (x :: xs') (x :: xs').length).map D.int).length < lim) && ((pre (x :: xs') (x :: xs').length).map D.int).all (okS 10)) = true
    rw [List.length_map, pre_len, Bool.and_eq_true, decide_eq_true_eq]
    refine ⟨Nat.lt_of_lt_of_le (show _ < 200 by omega) (by decide), List.all_eq_true.mpr fun z hz => ?_⟩
    obtain ⟨n, _, rfl⟩ := List.mem_map.mp hz
    rfl)
  refine ⟨u5, .val (.int cap), .val (rD a), .val (rD b), .val (.tup ((x :: xs').map D.int)), .val (.lst ((pre (x :: xs') (x :: xs').length).map D.int)), .val (.lst ((pre (x :: xs') (x :: xs').length).map D.int)), s8', hu5.mono (by omega), rfl, rfl, rfl, rfl, rfl, rfl, c8', ?_⟩
  unfold b_right
  have hlim1 : ([D.int 3, D.int (10 ^ 30)].length ≤ lim) = True := eq_true (by show 2 ≤ lim; decide)
  have hcut : cutA ((x :: xs').map D.int) (some 1) none = xs'.map D.int := by
    have := cutA_from ((x :: xs').map D.int) 1
    simpa using this
  have hget : gIx (.tup ((x :: xs').map D.int)) (.int 0) = some (.d (.int x)) := by
    have q := at_nat (xs := (x :: xs').map D.int) (i := 0) (by simp)
    show (atI ((x :: xs').map D.int) ((0 : Nat) : Int)).map PR.d = _
    rw [q]; rfl
  have e1' : den__law_of [.io (.l u), .val (.lst [.int 3, .int (10 ^ (30 : Int).toNat)])] = .ok (.d (.int cap)) [.io (.l u1), .no] := e1
  have hr8 := rest8 (s0 := .own (.l u4)) (s1 := .val d) (s2 := .val (.int cap)) (s3 := .val (rD a)) (s4 := .val (rD b)) (s5 := s5) (s6 := s6) (s7 := s7) (s9 := .no) (t0 := .own (.l u5)) (t1 := .val d) (t2 := .val (.int cap)) (t3 := .val (rD a)) (t4 := .val (rD b)) (t5 := s5) (t6 := s6) (t7 := s7) (t9 := .no) c8
  have l1 : ([D.int x].length ≤ lim) = True := eq_true (by show 1 ≤ lim; decide)
  have hsm := small62 (n := (x :: xs').length) (by omega)
  have htn := toNatI (x :: xs').length
  have hitR : ∀ ss : List Row, (rD ss).items = some (ss.map pD) := fun _ => rfl
  have hgl : gLen (.tup ((x :: xs').map D.int)) = some (.d (.int ((x :: xs').length : Nat))) := by
    show some (PR.d (D.int (((x :: xs').map D.int).length : Nat))) = _
    rw [List.length_map]
  refine seq_nx (by simp only [evl, evl2, evl3, evl4, prim, slotsE, nd0, nd1, if_true, limE, List.length_cons, List.length_nil, Nat.reduceAdd, f2, hp30, e1']; rfl) ?_
  refine seq_nx (by simp only [evl, evl2, evl3, evl4, prim, slotsE, nd0, nd1, if_true, limE, List.length_cons, List.length_nil, Nat.reduceAdd, f3, f4, e2, e3]; rfl) ?_
  refine seq_nx (st3 e4 hab e5) ?_
  refine seq_nx (t := [.own (.l u5), .val d, .val (.int cap), .val (rD a), .val (rD b), .val (.tup ((x :: xs').map D.int)), s6, s7, s8, .no]) (by
    rcases c8 with rfl | ⟨d8, rfl⟩
    all_goals simp only [evl, evl2, evl3, evl4, prim, slotsE, nd0, nd1, if_true, limE, hab, hitR, e6, f5]) ?_
  refine seq_nx (t := [.own (.l u5), .val d, .val (.int cap), .val (rD a), .val (rD b), .val (.tup ((x :: xs').map D.int)), .own (.l ((pre (x :: xs') (x :: xs').length).map D.int)), s7, s8, .no]) (by
    simp only [evl, evl2, evl3, evl4, prim, slotsE, nd0, nd1, if_true, limE, f6, hgl, hsm, htn, e7]) ?_
  refine seq_nx (by simp only [evl, evl2, evl3, evl4, prim, slotsE, nd0, nd1, if_true, limE, l1, f7, hget]; rfl) ?_
  refine seq_nx (by simp only [evl, evl2, evl3, evl4, prim, slotsE, nd0, nd1, if_true, limE, hcut, e8]; rfl) ?_
  simp only [evl, evl2, evl3, evl4, prim, slotsE, nd0, nd1, if_true, limE, hsame, Bool.not_true, Bool.false_eq_true, if_false]
end U
end

section
set_option Elab.async false
set_option linter.all false
set_option maxRecDepth 100000
set_option maxHeartbeats 0
namespace U
open PySem PySem.Spec PyProof.Rows L2
def mkD (x : Str) (i : Nat) : He.DefD := ⟨(x, none), x, x, defArgs (top i), defBody (top i), defScope (top i), [], []⟩
def fnL : List He.DefD := [mkD "check" 3, mkD "how_many_units" 4, mkD "stage_of" 5, mkD "earliest_place" 6, mkD "latest_place" 7, mkD "is_ahead" 8, mkD "ways_to_choose" 9, mkD "how_many_paths" 10, mkD "fewest_lost" 11, mkD "is_sure" 12, mkD "time_up" 13, mkD "_law_box" 15, mkD "_law_take" 16, mkD "_law_cells" 17, mkD "_law_of" 18, mkD "_law_same" 19, mkD "_law_stages" 20, mkD "_law_by_hand_right" 21, mkD "_law_two_right" 22, mkD "_law_losses_right" 23, mkD "_law_right" 24, mkD "law" 25]
def faL : List He.Fa := [.glo "check", .glo "how_many_units", .glo "stage_of", .glo "earliest_place", .glo "latest_place", .glo "is_ahead", .glo "ways_to_choose", .glo "how_many_paths", .glo "fewest_lost", .glo "is_sure", .glo "time_up", .glo "_law_box", .glo "_law_take", .glo "_law_cells", .glo "_law_of", .glo "_law_same", .glo "_law_stages", .glo "_law_by_hand_right", .glo "_law_two_right", .glo "_law_losses_right", .glo "_law_right", .glo "law", .free "len", .free "range", .free "zip", .free "enumerate", .free "isinstance", .free "int", .free "abs", .free "list", .free "tuple", .free "str", .free "bool", .free "dict", .free "set", .free "sorted", .free "sum", .free "min", .free "max", .free "any", .free "all"]
abbrev Rw : PySem.W.OpenRow := PySem.W.OpenLaw.row PySem.Challenge.rw_upbyany_k83_whole_great_stages_one_behin
abbrev hkL : PySem.W.Hook := He.hookD 4 faL fnL
def obL (s : PySem.W.SharedT) : He.AlD := He.obsDG 4 faL fnL (HandSHeadRun.getT s)
theorem obL_eq (s : PySem.W.SharedT) : obL s = hkL.obs s.abs := He.obsDG_eq (HandSHeadRun.getT_eq s)
def loose0 : List Str := ["NoNumber", "check", "how_many_units", "stage_of", "earliest_place", "latest_place", "is_ahead", "ways_to_choose", "how_many_paths", "fewest_lost", "is_sure", "time_up", "_law_box", "_law_take", "_law_cells", "_law_of", "_law_same", "_law_stages", "_law_by_hand_right", "_law_two_right", "_law_losses_right", "_law_right"]
def looseL : List Str := loose0
theorem run_head (w : World) : HandSHeadRun.RunEq Rw (PySem.W.view Rw.prog [25]) hkL obL 4000 looseL w := by
  intro os
  kernel_rfl
theorem facts {P : Program} {w : World} {K : PySem.W.Frag} {h : Heap} {mg : Str → Option Value} {f : Addr} (X : K.In h) (G : h.Ns mainGlobals mg) (hfa : mg ("law" : Str) = some (.ref f)) (c : He.SaysD faL fnL K) :
    ∃ fd : FuncData, (∀ (s : Shared) (v : Value), BindsTo s fd ⟨[v], []⟩ [("_law_script", v)]) ∧ ∀ base : Heap, K.In base → base.Ns mainGlobals mg → FnOk P w K mg base (L2.CX P w) 15 f fd ["_law_script"] (spOf K px0 1 den_law) := by
  have B : Blt mg := ⟨He.free_ok X G (c.fact 22 (f := .free "len") rfl), He.free_ok X G (c.fact 23 (f := .free "range") rfl), He.free_ok X G (c.fact 24 (f := .free "zip") rfl), He.free_ok X G (c.fact 25 (f := .free "enumerate") rfl), He.free_ok X G (c.fact 26 (f := .free "isinstance") rfl), He.free_ok X G (c.fact 27 (f := .free "int") rfl), He.free_ok X G (c.fact 28 (f := .free "abs") rfl), He.free_ok X G (c.fact 29 (f := .free "list") rfl), He.free_ok X G (c.fact 30 (f := .free "tuple") rfl), He.free_ok X G (c.fact 31 (f := .free "str") rfl), He.free_ok X G (c.fact 32 (f := .free "bool") rfl), He.free_ok X G (c.fact 33 (f := .free "dict") rfl), He.free_ok X G (c.fact 34 (f := .free "set") rfl), He.free_ok X G (c.fact 35 (f := .free "sorted") rfl), He.free_ok X G (c.fact 36 (f := .free "sum") rfl), He.free_ok X G (c.fact 37 (f := .free "min") rfl), He.free_ok X G (c.fact 38 (f := .free "max") rfl), He.free_ok X G (c.fact 39 (f := .free "any") rfl), He.free_ok X G (c.fact 40 (f := .free "all") rfl)⟩
  have D_check : DefOk K mg "check" (top 3) ["stages", "stage"] := by
    obtain ⟨fd, F⟩ := c.def_ 0 (d := mkD "check" 3) rfl
    exact ⟨_, fd, F, He.glo_ok X G (c.fact 0 (f := .glo "check") rfl), F.bindsN fun _ _ _ _ _ _ us hl => match us, hl with | [_, _], _ => rfl⟩
  have D_how_many_units : DefOk K mg "how_many_units" (top 4) ["stages"] := by
    obtain ⟨fd, F⟩ := c.def_ 1 (d := mkD "how_many_units" 4) rfl
    exact ⟨_, fd, F, He.glo_ok X G (c.fact 1 (f := .glo "how_many_units") rfl), F.bindsN fun _ _ _ _ _ _ us hl => match us, hl with | [_], _ => rfl⟩
  have D_stage_of : DefOk K mg "stage_of" (top 5) ["stages", "unit"] := by
    obtain ⟨fd, F⟩ := c.def_ 2 (d := mkD "stage_of" 5) rfl
    exact ⟨_, fd, F, He.glo_ok X G (c.fact 2 (f := .glo "stage_of") rfl), F.bindsN fun _ _ _ _ _ _ us hl => match us, hl with | [_, _], _ => rfl⟩
  have D_earliest_place : DefOk K mg "earliest_place" (top 6) ["stages", "unit"] := by
    obtain ⟨fd, F⟩ := c.def_ 3 (d := mkD "earliest_place" 6) rfl
    exact ⟨_, fd, F, He.glo_ok X G (c.fact 3 (f := .glo "earliest_place") rfl), F.bindsN fun _ _ _ _ _ _ us hl => match us, hl with | [_, _], _ => rfl⟩
  have D_latest_place : DefOk K mg "latest_place" (top 7) ["stages", "unit"] := by
    obtain ⟨fd, F⟩ := c.def_ 4 (d := mkD "latest_place" 7) rfl
    exact ⟨_, fd, F, He.glo_ok X G (c.fact 4 (f := .glo "latest_place") rfl), F.bindsN fun _ _ _ _ _ _ us hl => match us, hl with | [_, _], _ => rfl⟩
  have D_is_ahead : DefOk K mg "is_ahead" (top 8) ["stages", "one", "other"] := by
    obtain ⟨fd, F⟩ := c.def_ 5 (d := mkD "is_ahead" 8) rfl
    exact ⟨_, fd, F, He.glo_ok X G (c.fact 5 (f := .glo "is_ahead") rfl), F.bindsN fun _ _ _ _ _ _ us hl => match us, hl with | [_, _, _], _ => rfl⟩
  have D_ways_to_choose : DefOk K mg "ways_to_choose" (top 9) ["many", "few"] := by
    obtain ⟨fd, F⟩ := c.def_ 6 (d := mkD "ways_to_choose" 9) rfl
    exact ⟨_, fd, F, He.glo_ok X G (c.fact 6 (f := .glo "ways_to_choose") rfl), F.bindsN fun _ _ _ _ _ _ us hl => match us, hl with | [_, _], _ => rfl⟩
  have D_how_many_paths : DefOk K mg "how_many_paths" (top 10) ["stages", "stage"] := by
    obtain ⟨fd, F⟩ := c.def_ 7 (d := mkD "how_many_paths" 10) rfl
    exact ⟨_, fd, F, He.glo_ok X G (c.fact 7 (f := .glo "how_many_paths") rfl), F.bindsN fun _ _ _ _ _ _ us hl => match us, hl with | [_, _], _ => rfl⟩
  have D_fewest_lost : DefOk K mg "fewest_lost" (top 11) ["stages", "stage"] := by
    obtain ⟨fd, F⟩ := c.def_ 8 (d := mkD "fewest_lost" 11) rfl
    exact ⟨_, fd, F, He.glo_ok X G (c.fact 8 (f := .glo "fewest_lost") rfl), F.bindsN fun _ _ _ _ _ _ us hl => match us, hl with | [_, _], _ => rfl⟩
  have D_is_sure : DefOk K mg "is_sure" (top 12) ["stages", "lost", "stage"] := by
    obtain ⟨fd, F⟩ := c.def_ 9 (d := mkD "is_sure" 12) rfl
    exact ⟨_, fd, F, He.glo_ok X G (c.fact 9 (f := .glo "is_sure") rfl), F.bindsN fun _ _ _ _ _ _ us hl => match us, hl with | [_, _, _], _ => rfl⟩
  have D_time_up : DefOk K mg "time_up" (top 13) ["stages", "durations", "stage"] := by
    obtain ⟨fd, F⟩ := c.def_ 10 (d := mkD "time_up" 13) rfl
    exact ⟨_, fd, F, He.glo_ok X G (c.fact 10 (f := .glo "time_up") rfl), F.bindsN fun _ _ _ _ _ _ us hl => match us, hl with | [_, _, _], _ => rfl⟩
  have D__law_box : DefOk K mg "_law_box" (top 15) ["_law_script", "_law_k"] := by
    obtain ⟨fd, F⟩ := c.def_ 11 (d := mkD "_law_box" 15) rfl
    exact ⟨_, fd, F, He.glo_ok X G (c.fact 11 (f := .glo "_law_box") rfl), F.bindsN fun _ _ _ _ _ _ us hl => match us, hl with | [_, _], _ => rfl⟩
  have D__law_take : DefOk K mg "_law_take" (top 16) ["_law_urn", "_law_low_so"] := by
    obtain ⟨fd, F⟩ := c.def_ 12 (d := mkD "_law_take" 16) rfl
    exact ⟨_, fd, F, He.glo_ok X G (c.fact 12 (f := .glo "_law_take") rfl), F.bindsN fun _ _ _ _ _ _ us hl => match us, hl with | [_, _], _ => rfl⟩
  have D__law_cells : DefOk K mg "_law_cells" (top 17) ["_law_script", "_law_top"] := by
    obtain ⟨fd, F⟩ := c.def_ 13 (d := mkD "_law_cells" 17) rfl
    exact ⟨_, fd, F, He.glo_ok X G (c.fact 13 (f := .glo "_law_cells") rfl), F.bindsN fun _ _ _ _ _ _ us hl => match us, hl with | [_, _], _ => rfl⟩
  have D__law_of : DefOk K mg "_law_of" (top 18) ["_law_urn", "_law_some_so"] := by
    obtain ⟨fd, F⟩ := c.def_ 14 (d := mkD "_law_of" 18) rfl
    exact ⟨_, fd, F, He.glo_ok X G (c.fact 14 (f := .glo "_law_of") rfl), F.bindsN fun _ _ _ _ _ _ us hl => match us, hl with | [_, _], _ => rfl⟩
  have D__law_same : DefOk K mg "_law_same" (top 19) ["_law_got", "_law_goal"] := by
    obtain ⟨fd, F⟩ := c.def_ 15 (d := mkD "_law_same" 19) rfl
    exact ⟨_, fd, F, He.glo_ok X G (c.fact 15 (f := .glo "_law_same") rfl), F.bindsN fun _ _ _ _ _ _ us hl => match us, hl with | [_, _], _ => rfl⟩
  have D__law_stages : DefOk K mg "_law_stages" (top 20) ["_law_urn", "_law_cap_so", "_law_most_so"] := by
    obtain ⟨fd, F⟩ := c.def_ 16 (d := mkD "_law_stages" 20) rfl
    exact ⟨_, fd, F, He.glo_ok X G (c.fact 16 (f := .glo "_law_stages") rfl), F.bindsN fun _ _ _ _ _ _ us hl => match us, hl with | [_, _, _], _ => rfl⟩
  have D__law_by_hand_right : DefOk K mg "_law_by_hand_right" (top 21) [] := by
    obtain ⟨fd, F⟩ := c.def_ 17 (d := mkD "_law_by_hand_right" 21) rfl
    exact ⟨_, fd, F, He.glo_ok X G (c.fact 17 (f := .glo "_law_by_hand_right") rfl), F.bindsN fun _ _ _ _ _ _ us hl => match us, hl with | [], _ => rfl⟩
  have D__law_two_right : DefOk K mg "_law_two_right" (top 22) ["_law_urn", "_law_early", "_law_late"] := by
    obtain ⟨fd, F⟩ := c.def_ 18 (d := mkD "_law_two_right" 22) rfl
    exact ⟨_, fd, F, He.glo_ok X G (c.fact 18 (f := .glo "_law_two_right") rfl), F.bindsN fun _ _ _ _ _ _ us hl => match us, hl with | [_, _, _], _ => rfl⟩
  have D__law_losses_right : DefOk K mg "_law_losses_right" (top 23) ["_law_rows_so"] := by
    obtain ⟨fd, F⟩ := c.def_ 19 (d := mkD "_law_losses_right" 23) rfl
    exact ⟨_, fd, F, He.glo_ok X G (c.fact 19 (f := .glo "_law_losses_right") rfl), F.bindsN fun _ _ _ _ _ _ us hl => match us, hl with | [_], _ => rfl⟩
  have D__law_right : DefOk K mg "_law_right" (top 24) ["_law_urn"] := by
    obtain ⟨fd, F⟩ := c.def_ 20 (d := mkD "_law_right" 24) rfl
    exact ⟨_, fd, F, He.glo_ok X G (c.fact 20 (f := .glo "_law_right") rfl), F.bindsN fun _ _ _ _ _ _ us hl => match us, hl with | [_], _ => rfl⟩
  obtain ⟨fd, F⟩ := c.def_ 21 (d := mkD "law" 25) rfl
  have e := hfa.symm.trans (He.glo_ok X G (c.fact 21 (f := .glo "law") rfl))
  cases e
  have b := FunD.bindsA (ps := ["_law_script"]) F fun _ _ _ _ _ _ us hl => match us, hl with | [_], _ => rfl
  refine ⟨fd, fun s v => b s [v] rfl, fun base _ _ => ?_⟩
  have C_check : Callee P w K mg base px0 "check" 2 1 den_check := ok_check B D_check 
  have C_how_many_units : Callee P w K mg base px0 "how_many_units" 1 1 den_how_many_units := ok_how_many_units B D_how_many_units 
  have C_stage_of : Callee P w K mg base px0 "stage_of" 2 1 den_stage_of := ok_stage_of B D_stage_of 
  have C_earliest_place : Callee P w K mg base px0 "earliest_place" 2 2 den_earliest_place := ok_earliest_place B D_earliest_place C_stage_of
  have C_latest_place : Callee P w K mg base px0 "latest_place" 2 2 den_latest_place := ok_latest_place B D_latest_place C_stage_of C_how_many_units
  have C_is_ahead : Callee P w K mg base px0 "is_ahead" 3 2 den_is_ahead := ok_is_ahead B D_is_ahead C_stage_of
  have C_ways_to_choose : Callee P w K mg base px0 "ways_to_choose" 2 1 den_ways_to_choose := ok_ways_to_choose B D_ways_to_choose 
  have C_how_many_paths : Callee P w K mg base px0 "how_many_paths" 2 2 den_how_many_paths := ok_how_many_paths B D_how_many_paths C_check C_ways_to_choose
  have C_fewest_lost : Callee P w K mg base px0 "fewest_lost" 2 2 den_fewest_lost := ok_fewest_lost B D_fewest_lost C_check
  have C_is_sure : Callee P w K mg base px0 "is_sure" 3 2 den_is_sure := ok_is_sure B D_is_sure C_check
  have C_time_up : Callee P w K mg base px0 "time_up" 3 2 den_time_up := ok_time_up B D_time_up C_check
  have C__law_box : Callee P w K mg base px0 "_law_box" 2 1 den__law_box := ok__law_box B D__law_box 
  have C__law_take : Callee P w K mg base px0 "_law_take" 2 1 den__law_take := ok__law_take B D__law_take 
  have C__law_cells : Callee P w K mg base px0 "_law_cells" 2 1 den__law_cells := ok__law_cells B D__law_cells 
  have C__law_of : Callee P w K mg base px0 "_law_of" 2 2 den__law_of := ok__law_of B D__law_of C__law_take
  have C__law_same : Callee P w K mg base px0 "_law_same" 2 12 (den__law_same 12) := ok__law_same B D__law_same  12
  have C__law_stages : Callee P w K mg base px0 "_law_stages" 3 2 den__law_stages := ok__law_stages B D__law_stages C__law_take
  have C__law_by_hand_right : Callee P w K mg base px0 "_law_by_hand_right" 0 13 den__law_by_hand_right := ok__law_by_hand_right B D__law_by_hand_right C_earliest_place C_how_many_units C_is_ahead C_latest_place C_fewest_lost C_how_many_paths C_stage_of C__law_same
  have C__law_two_right : Callee P w K mg base px0 "_law_two_right" 3 13 den__law_two_right := ok__law_two_right B D__law_two_right C_how_many_units C__law_take C_stage_of C_earliest_place C_latest_place C_is_ahead C__law_same C_how_many_paths C_fewest_lost
  have C__law_losses_right : Callee P w K mg base px0 "_law_losses_right" 1 3 den__law_losses_right := ok__law_losses_right B D__law_losses_right C_fewest_lost C_is_sure
  have C__law_right : Callee P w K mg base px0 "_law_right" 1 14 den__law_right := ok__law_right B D__law_right C__law_by_hand_right C__law_of C__law_stages C__law_two_right C__law_losses_right C__law_take C_time_up C__law_same
  exact ok_law B F C__law_cells C__law_right C__law_box
end U
end

section
set_option Elab.async false
set_option linter.all false
set_option maxRecDepth 100000
namespace U
open PySem PySem.Spec PyProof.Rows L2
theorem hand_ok : den__law_by_hand_right [] = .ok (.d (.bl true)) [] := by kernel_rfl
theorem sIf_hand {dH : List Sl → DR} (h : dH [] = .ok (.d (.bl true)) []) (τ : T) : sIfS (sNot (sTru (toB (frz (sCall dH sBNil))))) (sRet (sC (.bl false))) (sNext) τ = .nx τ := by
  simp only [evl, evl2, evl3, evl4, prim, slotsE, nd0, if_true, h, Bool.not_true, Bool.false_eq_true, if_false]
theorem right_loop : ∀ (ds : List D) (k : Nat) (u : List D) (s1 s2 s3 s4 s5 s6 s7 s8 : Sl), Urn k u → k + 100 * ds.length + 300 < 2 ^ 60 → s1.free = true → s2.free = true → s3.free = true → s4.free = true → s5.free = true → s6.free = true → s7.free = true → (s8 = .no ∨ ∃ d, s8 = .val d) →
    ∃ (u' : List D) (t1 t2 t3 t4 t5 t6 t7 t8 : Sl), forL (sBody (gNm 1) b_right) ds [.own (.l u), s1, s2, s3, s4, s5, s6, s7, s8, .no] = .nx [.own (.l u'), t1, t2, t3, t4, t5, t6, t7, t8, .no]
  | [], k, u, s1, s2, s3, s4, s5, s6, s7, s8, _, _, _, _, _, _, _, _, _, _ => ⟨u, s1, s2, s3, s4, s5, s6, s7, s8, rfl⟩
  | d :: ds, k, u, s1, s2, s3, s4, s5, s6, s7, s8, hu, hk, f1, f2, f3, f4, f5, f6, f7, c8 => by
    rw [List.length_cons] at hk
    obtain ⟨u1, t2, t3, t4, t5, t6, t7, t8, hu1, g2, g3, g4, g5, g6, g7, d8, e⟩ := turn_ok hu (by omega) d s2 s3 s4 s5 s6 s7 s8 f2 f3 f4 f5 f6 f7 c8
    obtain ⟨u', r1, r2, r3, r4, r5, r6, r7, r8, ih⟩ := right_loop ds (k + 100) u1 (.val d) t2 t3 t4 t5 t6 t7 t8 hu1 (by omega) rfl g2 g3 g4 g5 g6 g7 d8
    refine ⟨u', r1, r2, r3, r4, r5, r6, r7, r8, ?_⟩
    rw [forL_step (τ1 := [.own (.l u1), .val d, t2, t3, t4, t5, t6, t7, t8, .no])]
    · exact ih
    · have hg : gNm 1 d [.own (.l u), s1, s2, s3, s4, s5, s6, s7, s8, .no] = some [.own (.l u), .val d, s2, s3, s4, s5, s6, s7, s8, .no] := by
        simp only [evl3, evl2, slotsE, f1, if_true]
      show (match gNm 1 d [.own (.l u), s1, s2, s3, s4, s5, s6, s7, s8, .no] with
        | some τ' => b_right τ'
        | none => .stuck) = _
      rw [hg]; exact e
theorem right_ok {u : List D} (hu : Urn 0 u) : den__law_right [.own (.l u)] = .ok (.d (.bl true)) [.no] := by
  obtain ⟨u', t1, t2, t3, t4, t5, t6, t7, t8, e⟩ := right_loop (rng 0 8) 0 u .no .no .no .no .no .no .no .no hu (by simp [rng]) rfl rfl rfl rfl rfl rfl rfl (.inl rfl)
  have hr : (-(2 ^ 62) ≤ (8 : Int) ∧ (8 : Int) < 2 ^ 62) = True := eq_true (by decide)
  show DR.of (f__law_right [.own (.l u), .no, .no, .no, .no, .no, .no, .no, .no, .no]) [.own (.l u)] = _
  rw [f_right_eq]
  refine run_seq (sIf_hand hand_ok _) ?_
  refine run_seq (t := [.own (.l u'), t1, t2, t3, t4, t5, t6, t7, t8, .no]) ?_ ?_
  · simp only [evl, evl2, evl3, evl4, prim, slotsE, hr, if_true]
    exact e
  · simp only [evl, evl2, evl3, evl4, prim, slotsE]
theorem law_step {dR dB : List Sl → DR} {u u' : List D} {v0 : Sl} {c : D} {k : Nat} (hb : dB [.val c, .val (.int k)] = .ok (.o (.l u)) [.no, .no]) (hr : dR [.own (.l u)] = .ok (.d (.bl true)) [.no]) :
    turnC (gNm 2) (fun τ => .ok true τ) (frz (sCallF dR (sCall dB (sBCons (toB (frz (sVar 1))) (sBCons (toB (frz (sVar 2))) (sBNil)))))) [2] (.int k) [v0, .val c, .no] = .ok (some (.bl true)) [v0, .val c, .no] := by
  simp only [evl, evl2, evl3, evl4, prim, slotsE, if_true, nd0, hb, hr]
theorem law_step0 {dR dB : List Sl → DR} {u : List D} {v0 : Sl} {cs : List D} {k : Nat} (hb : dB [.val (.lst cs), .val (.int k)] = .ok (.o (.l u)) [.no, .no]) (hr : dR [.own (.l u)] = .ok (.d (.bl true)) [.no]) :
    turnC (gNm 2) (fun τ => .ok true τ) (frz (sCallF dR (sCall dB (sBCons (toB (frz (sVar 1))) (sBCons (toB (frz (sVar 2))) (sBNil)))))) [2] (.int k) [v0, .own (.l cs), .no] = .ok (some (.bl true)) [v0, .val (.lst cs), .no] := by
  simp only [evl, evl2, evl3, evl4, prim, slotsE, if_true, nd0, hb, hr]
theorem compL_first {f : D → T → Rs (Option D)} {d z : D} {xs : List Nat} {g h : Nat → D} {τ τ' : T} (h0 : f d τ = .ok (some z) τ') (hf : ∀ j ∈ xs, f (g j) τ' = .ok (some (h j)) τ') (hl : xs.length ≤ 1000) : compL f (d :: xs.map g) τ [] = .ok (z :: xs.map h) τ' := by
  have e := compL_pure (f := f) (τ := τ') (h := fun d => d) [] [z]
  have key : ∀ (xs : List Nat) (acc : List D), (∀ x ∈ xs, f (g x) τ' = .ok (some (h x)) τ') → acc.length + xs.length ≤ lim → compL f (xs.map g) τ' acc = .ok (acc ++ xs.map h) τ' := fun xs => by
    induction xs with
    | nil => intro acc _ _; simp [compL]
    | cons x xs ih =>
      intro acc hf hl
      rw [List.length_cons] at hl
      have hlt : acc.length < lim := by omega
      show (match f (g x) τ' with
        | .ok (some z) τ1 => if acc.length < lim then compL f (xs.map g) τ1 (acc ++ [z]) else .stuck
        | .ok none τ1 => compL f (xs.map g) τ1 acc
        | _ => .stuck) = _
      rw [hf x (List.mem_cons_self ..)]
      show (if acc.length < lim then compL f (xs.map g) τ' (acc ++ [h x]) else .stuck) = _
      rw [if_pos hlt, ih (acc ++ [h x]) (fun z hz => hf z (List.mem_cons_of_mem _ hz)) (by rw [List.length_append, List.length_singleton]; omega)]
      simp
  show (match f d τ with
    | .ok (some z) τ1 => if ([] : List D).length < lim then compL f (xs.map g) τ1 ([] ++ [z]) else .stuck
    | .ok none τ1 => compL f (xs.map g) τ1 []
    | _ => .stuck) = _
  rw [h0]
  show (if ([] : List D).length < lim then compL f (xs.map g) τ' [z] else .stuck) = _
  rw [if_pos (by decide), key xs [z] hf (by rw [List.length_singleton]; exact Nat.le_trans (Nat.add_le_add_left hl 1) (by decide))]
  rfl
theorem law_true (ns : List Int) (hn : ns.length ≤ 63) : ∃ fs, den_law [.val (.scr ns)] = .ok (.d (.bl true)) fs := by
  obtain ⟨cs, h1, h3, ec⟩ := cells_ok ns hn
  have hl : gLen (.lst (cs.map D.int)) = some (.d (.int cs.length)) := by
    show some (PR.d (D.int ((cs.map D.int).length : Nat))) = _
    rw [List.length_map]
  obtain ⟨n, hn1⟩ : ∃ n, cs.length = n + 1 := ⟨cs.length - 1, by omega⟩
  have hr : rng 0 cs.length = .int ((0 : Nat) : Int) :: (List.range' 1 n).map fun (j : Nat) => D.int (j : Int) := by
    unfold rng
    rw [hn1, List.range_eq_range', List.range'_succ, List.map_cons, List.map_congr_left (g := fun (j : Nat) => D.int (j : Int)) fun j _ => by rw [Int.zero_add]]
    rfl
  have hc : compL (turnC (gNm 2) (fun τ => .ok true τ) (frz (sCallF den__law_right (sCall den__law_box (sBCons (toB (frz (sVar 1))) (sBCons (toB (frz (sVar 2))) (sBNil)))))) [2]) (rng 0 cs.length) [.val (.scr ns), .own (.l (cs.map D.int)), .no] []
      = .ok (D.bl true :: (List.range' 1 n).map fun _ => D.bl true) [.val (.scr ns), .val (.lst (cs.map D.int)), .no] := by
    rw [hr]
    obtain ⟨u, hu, eb⟩ := box_ok cs 0 (by omega) h3
    refine compL_first (law_step0 eb (right_ok hu)) ?_ (by rw [List.length_range']; omega)
    intro j hj
    obtain ⟨u, hu, eb⟩ := box_ok cs j (by have := List.mem_range'_1.mp hj; omega) h3
    exact law_step (u' := u) eb (right_ok hu)
  have hall : gAll (.lst (D.bl true :: (List.range' 1 n).map fun _ => D.bl true)) = some (.d (.bl true)) := gAll_true fun d hd => by
    rcases List.mem_cons.mp hd with e | hd
    · exact e
    · obtain ⟨_, _, e⟩ := List.mem_map.mp hd
      exact e.symm
  refine ⟨[.no], ?_⟩
  have hsm := small62 (n := cs.length) (by omega)
  have htn := toNatI cs.length
  unfold den_law f_law
  simp only [evl, evl2, evl3, evl4, prim, slotsE, if_true, nd0, ec, hl, hsm, htn]
  rw [hc]
  simp only [evl, evl2, evl3, evl4, prim, slotsE, hall]
end U
end

section
set_option Elab.async false
set_option maxRecDepth 100000
open PySem PySem.W PySem.Calls PyProof.Rows
set_option maxHeartbeats 0 in
theorem PySem.Challenge.cw_upbyany_k83_whole_great_stages_one_behin_holds : PySem.Challenge.rw_upbyany_k83_whole_great_stages_one_behin.Holds := by
  w_on; o_law
  refine HandSHeadRun.head_any (r := (PySem.W.OpenLaw.row PySem.Challenge.rw_upbyany_k83_whole_great_stages_one_behin)) (q := view (PySem.W.OpenLaw.row PySem.Challenge.rw_upbyany_k83_whole_great_stages_one_behin).prog [25]) (H := U.hkL) (ob := U.obL) (M := 4000) (loose := U.looseL) (d := HandSHeadRun.topDef (PySem.W.OpenLaw.row PySem.Challenge.rw_upbyany_k83_whole_great_stages_one_behin).prog 25) (kwd := []) U.obL_eq
    (by kernel_rfl) (fun s => by kernel_rfl) U.run_head (by kernel_rfl) (by kernel_rfl) (by kernel_rfl) (by rfl) (by first | assumption | decide +kernel) (by decide +kernel) ⟨rfl, rfl, rfl, rfl, rfl, by decide +kernel⟩ ?hw ?hc
  case hw => w_witness2
  case hc =>
    refine U.walk_U (l := PySem.Challenge.rw_upbyany_k83_whole_great_stages_one_behin) (n := 63) (k := 15) (x := "_law_script") (px := U.px0) (den := U.den_law) rfl (by decide) (by kernel_rfl) ⟨rfl, by decide, by decide⟩ ?F U.law_true
    intro w mg fa h Y G hmg0
    obtain ⟨K, KX, c⟩ := Y
    have hmg : mg ("law" : PySem.Str) = some (.ref fa) := by
      have e : (HandSHeadRun.topDef (PySem.W.OpenLaw.row PySem.Challenge.rw_upbyany_k83_whole_great_stages_one_behin).prog 25).name = ("law" : PySem.Str) := by kernel_rfl
      rw [← e]
      exact hmg0
    obtain ⟨fd, hb, hF⟩ := U.facts (P := (PySem.Challenge.rw_upbyany_k83_whole_great_stages_one_behin).prog) (w := w) KX G hmg c
    exact ⟨K, fd, KX, hb, hF⟩
end
