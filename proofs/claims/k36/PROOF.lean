import PyProof.Rows.All
import Wide.All
import OpenK.AllK
import Wide.FinOn
import HandS.ForMost
import HandS.ForExc
import HandS.Wide
import HandS.Walk
import HandS.Flow
import HandS.Deep
import HandS.HeadHook1
import KE.DataCmp
import KE.SortData
import HandS.TupAny
import HandS.TupMul
import HandS.IsInst
import PyProof.TupleOfStr
import KE.DataMinMax
import HandS.Star
import HandS.Zip
import HandS.NoneIn
import KE.GoesMore
import HandS.ExcOwn
import HandS.CallSlots
import HandS.Defaults
import HandS.Lambda
import PyProof.SumAny
import HandS.HeadHook2
import HandS.HeadEnd
import HandS.Ends
import KE.KStateDown
import HandS.More
import HandS.Words
import HandS.WordsExc
import HandS.Head0
import HandS.Head1
import HandS.Head2
import HandS.TupSets
import KE.KeyNested
import HandS.SetFor
import HandS.DictComp
import KE.KDictPairs
import KE.KExcIs
import HandS.ExcField
import HandS.HeadHook4
import HandS.ExcInit
import KE.KExcInit
import HandS.Conv
import PySem.Challenge.RW_upbyany_k36_who_can_be_last_and_who_is_l
section
set_option Elab.async false
set_option linter.all false
set_option maxRecDepth 100000
namespace U
open PySem PySem.Spec PyProof.Rows L2


abbrev St := L2.St
inductive D where
  | non | bl (b : Bool) | int (i : Int) | str (x : List Nat)
  | tup (xs : List D) | lst (xs : List D) | dct (t : Bool) (ks vs : List D) | exc (c : Nat) (fs : List D)
  /-- a tuple whose object is known to have no dict -/
  | ptp (xs : List D)
  /-- the script -/
  | scr (ns : List Int)

abbrev stO (x : List Nat) : Str := ⟨x.toArray⟩

/-- a dict's key among D -/
def D.key : D → Option Key
  | .int i => some (.inl i)
  | .str x => some (.inr (stO x))
  | _ => none
def keysOf : List D → Option (List Key)
  | [] => some []
  | d :: ds => match d.key, keysOf ds with
    | some k, some ks => some (k :: ks)
    | _, _ => none
/-- a tuple of such as a key -/
def D.keyT : D → Option (List Key)
  | .tup xs => keysOf xs
  | _ => none
def keysTOf : List D → Option (List (List Key))
  | [] => some []
  | d :: ds => match d.keyT, keysTOf ds with
    | some k, some ks => some (k :: ks)
    | _, _ => none

/-- the package's exception classes: their names, their fields -/
def xName : Nat → Str
  | 0 => "NoUnit" | 1 => "NoNumber" | 2 => "NoNeed" | 3 => "NoName" | 4 => "NoFrame" | 5 => "BadText" | 6 => "Twice" | 7 => "OtherUnits"
  | 8 => "NoBook" | 9 => "Known" | 10 => "IsUp" | 11 => "Outside" | 12 => "BadLine" | 13 => "Stopped" | _ => ""
def xFlds : Nat → List Str
  | 0 => ["name"] | 1 => ["number"] | 2 => ["unit", "need"] | 3 => ["name"] | 4 => ["name"] | 6 => ["name"]
  | 9 => ["name"] | 10 => ["name"] | 11 => ["name"] | 12 => ["number"] | 13 => ["number", "raised", "value"] | _ => []
/-- where the class stands -/
def xC (K : PySem.W.Frag) (c : Nat) : Addr := He.ga K (xName c)
/-- a caught exception: its class, its dict -/
def xo (a C : Addr) (d : Option Addr) : HO := .ext fun h => ∃ oe vs, h.get? a = some oe ∧ Zc (.ref C) d oe ∧ oe.data = .fields vs

mutual
inductive Rep (K : PySem.W.Frag) (F : Hp) : V → D → Prop
  | non : Rep K F .non .non
  | bl (b : Bool) : Rep K F (.bl b) (.bl b)
  | int (i : Int) : Rep K F (.int i) (.int i)
  | str (x : List Nat) : Rep K F (.str (stO x)) (.str x)
  | tup {a : Addr} {vs : List V} {ds : List D} : F a = some (.tup vs) → RepL K F vs ds → Rep K F (.ref a) (.tup ds)
  | lst {a : Addr} {vs : List V} {ds : List D} : F a = some (.lst vs) → RepL K F vs ds → Rep K F (.ref a) (.lst ds)
  | scr {a : Addr} {ns : List Int} : SqL K F a (ns.map V.int) → Rep K F (.ref a) (.scr ns)
  | dK {a : Addr} {o : Obj} {kvs : List (Key × V)} {ks ds : List D} : F a = some (.frz o (.dK kvs)) → keysOf ks = some (kvs.map (·.1)) → RepL K F (kvs.map (·.2)) ds → Rep K F (.ref a) (.dct false ks ds)
  | dT {a : Addr} {o : Obj} {kvs : List (List Key × V)} {ks ds : List D} : F a = some (.frz o (.dT kvs)) → keysTOf ks = some (kvs.map (·.1)) → RepL K F (kvs.map (·.2)) ds → Rep K F (.ref a) (.dct true ks ds)
  | ptp {a : Addr} {o : Obj} {vs : List V} {ds : List D} : F a = some (.frz o (.tup vs)) → o.dict = none → RepL K F vs ds → Rep K F (.ref a) (.ptp ds)
  | exc0 {a : Addr} {c : Nat} : F a = some (xo a (xC K c) none) → xFlds c = [] → Rep K F (.ref a) (.exc c [])
  | excD {a d : Addr} {c : Nat} {fl : List (Str × V)} {fs : List D} : F a = some (xo a (xC K c) (some d)) → F d = some (.xd fl) → fl.map (·.1) = xFlds c → RepL K F (fl.map (·.2)) fs → Rep K F (.ref a) (.exc c fs)
inductive RepL (K : PySem.W.Frag) (F : Hp) : List V → List D → Prop
  | nil : RepL K F [] []
  | cons {v : V} {vs : List V} {d : D} {ds : List D} : Rep K F v d → RepL K F vs ds → RepL K F (v :: vs) (d :: ds)
end

/-- more is frozen -/
def Sub (F F' : Hp) : Prop := ∀ a o, F a = some o → F' a = some o
theorem Sub.refl (F : Hp) : Sub F F := fun _ _ h => h
theorem Sub.trans {F G H : Hp} (a : Sub F G) (b : Sub G H) : Sub F H := fun x o h => b x o (a x o h)
theorem Sub.upd {F : Hp} {a : Addr} {o : HO} (h : F a = none) : Sub F (upd F a o) := fun b x e => by
  rw [upd_ne (ne_of_none e h)]; exact e
theorem Sub.sqL {K : PySem.W.Frag} {F F' : Hp} {a : Addr} {xs : List V} (e : Sub F F') (h : SqL K F a xs) : SqL K F' a xs := by
  rcases h with (h | ⟨o, h⟩) | h
  · exact .inl (.inl (e _ _ h))
  · exact .inl (.inr ⟨o, e _ _ h⟩)
  · exact .inr h
theorem Sub.rd {F F' : Hp} {a : Addr} {u : HO} (e : Sub F F') (h : Rd F a u) : Rd F' a u := by
  rcases h with h | ⟨o, h⟩
  · exact .inl (e _ _ h)
  · exact .inr ⟨o, e _ _ h⟩
theorem Sub.sqT {K : PySem.W.Frag} {F F' : Hp} {a : Addr} {xs : List V} (e : Sub F F') (h : SqT K F a xs) : SqT K F' a xs := by
  rcases h with (h | ⟨o, h⟩) | h
  · exact .inl (.inl (e _ _ h))
  · exact .inl (.inr ⟨o, e _ _ h⟩)
  · exact .inr h
mutual
theorem Rep.mono {K : PySem.W.Frag} {F F' : Hp} (e : Sub F F') : ∀ {v : V} {d : D}, Rep K F v d → Rep K F' v d
  | _, _, .non => .non
  | _, _, .bl b => .bl b
  | _, _, .int i => .int i
  | _, _, .str x => .str x
  | _, _, .tup h r => .tup (e _ _ h) (RepL.mono e r)
  | _, _, .lst h r => .lst (e _ _ h) (RepL.mono e r)
  | _, _, .scr h => .scr (e.sqL h)
  | _, _, .dK h k r => .dK (e _ _ h) k (RepL.mono e r)
  | _, _, .dT h k r => .dT (e _ _ h) k (RepL.mono e r)
  | _, _, .ptp h k r => .ptp (e _ _ h) k (RepL.mono e r)
  | _, _, .exc0 h k => .exc0 (e _ _ h) k
  | _, _, .excD h g k r => .excD (e _ _ h) (e _ _ g) k (RepL.mono e r)
theorem RepL.mono {K : PySem.W.Frag} {F F' : Hp} (e : Sub F F') : ∀ {vs : List V} {ds : List D}, RepL K F vs ds → RepL K F' vs ds
  | _, _, .nil => .nil
  | _, _, .cons h r => .cons (Rep.mono e h) (RepL.mono e r)
end
theorem RepL.length {K : PySem.W.Frag} {F : Hp} : ∀ {vs : List V} {ds : List D}, RepL K F vs ds → vs.length = ds.length
  | _, _, .nil => rfl
  | _, _, .cons _ r => congrArg (· + 1) r.length
theorem RepL.get {K : PySem.W.Frag} {F : Hp} : ∀ {vs : List V} {ds : List D}, RepL K F vs ds → ∀ {i : Nat} {d : D}, ds[i]? = some d → ∃ v, vs[i]? = some v ∧ Rep K F v d
  | _, _, .nil, i, d, e => by simp at e
  | _, _, .cons h r, 0, d, e => by simp at e; subst e; exact ⟨_, rfl, h⟩
  | _, _, .cons h r, i + 1, d, e => r.get (i := i) (by simpa using e)
theorem RepL.getV {K : PySem.W.Frag} {F : Hp} : ∀ {vs : List V} {ds : List D}, RepL K F vs ds → ∀ {i : Nat} {v : V}, vs[i]? = some v → ∃ d, ds[i]? = some d ∧ Rep K F v d
  | _, _, .nil, i, d, e => by simp at e
  | _, _, .cons h r, 0, d, e => by simp at e; subst e; exact ⟨_, rfl, h⟩
  | _, _, .cons h r, i + 1, d, e => r.getV (i := i) (by simpa using e)
theorem RepL.append {K : PySem.W.Frag} {F : Hp} : ∀ {vs ws : List V} {ds es : List D}, RepL K F vs ds → RepL K F ws es → RepL K F (vs ++ ws) (ds ++ es)
  | _, _, _, _, .nil, s => s
  | _, _, _, _, .cons h r, s => .cons h (r.append s)
theorem RepL.take {K : PySem.W.Frag} {F : Hp} : ∀ {vs : List V} {ds : List D} (n : Nat), RepL K F vs ds → RepL K F (vs.take n) (ds.take n)
  | _, _, 0, _ => .nil
  | _, _, _ + 1, .nil => .nil
  | _, _, n + 1, .cons h r => .cons h (r.take n)
theorem RepL.drop {K : PySem.W.Frag} {F : Hp} : ∀ {vs : List V} {ds : List D} (n : Nat), RepL K F vs ds → RepL K F (vs.drop n) (ds.drop n)
  | _, _, 0, r => r
  | _, _, _ + 1, .nil => .nil
  | _, _, n + 1, .cons _ r => r.drop n
theorem RepL.set {K : PySem.W.Frag} {F : Hp} {v : V} {d : D} (h : Rep K F v d) : ∀ {vs : List V} {ds : List D} (n : Nat), RepL K F vs ds → RepL K F (vs.set n v) (ds.set n d)
  | _, _, _, .nil => .nil
  | _, _, 0, .cons _ r => .cons h r
  | _, _, n + 1, .cons g r => .cons g (r.set h n)
theorem RepL.eraseIdx {K : PySem.W.Frag} {F : Hp} : ∀ {vs : List V} {ds : List D} (n : Nat), RepL K F vs ds → RepL K F (vs.eraseIdx n) (ds.eraseIdx n)
  | _, _, _, .nil => .nil
  | _, _, 0, .cons _ r => r
  | _, _, n + 1, .cons g r => .cons g (r.eraseIdx n)
theorem RepL.ints {K : PySem.W.Frag} {F : Hp} : ∀ {vs : List V} {ns : List Int}, RepL K F vs (ns.map D.int) → vs = ns.map V.int
  | _, [], .nil => rfl
  | _, n :: ns, .cons h r => by cases h; rw [r.ints]; rfl
theorem RepL.of_ints {K : PySem.W.Frag} {F : Hp} : ∀ (ns : List Int), RepL K F (ns.map V.int) (ns.map D.int)
  | [] => .nil
  | n :: ns => .cons (.int n) (RepL.of_ints ns)

/-! ### slots -/
/-- an owned object: a list, a dict -/
inductive OV where
  | l (ds : List D)
  | d (t : Bool) (ks vs : List D)
inductive Sl where
  | no
  | val (d : D)
  /-- an owned object: no one else holds it -/
  | own (o : OV)
  /-- one lent by the caller -/
  | io (o : OV)
abbrev T := List Sl
def Sl.mut : Sl → Option OV
  | .own o => some o
  | .io o => some o
  | _ => none
inductive OwnO (K : PySem.W.Frag) (F : Hp) : OV → HO → Prop
  | l {ds : List D} {vs : List V} : RepL K F vs ds → OwnO K F (.l ds) (.lst vs)
  | dK {kvs : List (Key × V)} {ks ds : List D} : keysOf ks = some (kvs.map (·.1)) → RepL K F (kvs.map (·.2)) ds → OwnO K F (.d false ks ds) (.dK kvs)
  | dT {kvs : List (List Key × V)} {ks ds : List D} : keysTOf ks = some (kvs.map (·.1)) → RepL K F (kvs.map (·.2)) ds → OwnO K F (.d true ks ds) (.dT kvs)
theorem OwnO.mono {K : PySem.W.Frag} {F F' : Hp} {o : OV} {u : HO} (e : Sub F F') (h : OwnO K F o u) : OwnO K F' o u := by
  cases h with
  | l r => exact .l (r.mono e)
  | dK k r => exact .dK k (r.mono e)
  | dT k r => exact .dT k (r.mono e)

/-- what the frame may change (m), where its lent objects stand (ad) -/
structure MS where
  m : Addr → Prop
  ad : Nat → Addr
/-- M: what the frame may change. F: what is frozen -/
structure SRel (K : PySem.W.Frag) (M : MS) (F H : Hp) (σ : St) (τ : T) : Prop where
  len : τ.length ≤ σ.length
  up : ∀ a, H a = none → M.m a
  sub : Sub F H
  val : ∀ (i : Nat) (d : D), τ[i]? = some (Sl.val d) → ∃ v : V, σ[i]? = some (some v) ∧ Rep K F v d
  own : ∀ (i : Nat) (s : Sl) (o : OV), τ[i]? = some s → s.mut = some o → ∃ (a : Addr) (u : HO), σ[i]? = some (some (V.ref a)) ∧ H a = some u ∧ F a = none ∧ M.m a ∧ OwnO K F o u
  apart : ∀ (i j : Nat) (s t : Sl) (a : Addr), τ[i]? = some s → s.mut ≠ none → τ[j]? = some t → t.mut ≠ none → σ[i]? = some (some (V.ref a)) → σ[j]? = some (some (V.ref a)) → i = j
  io : ∀ (i : Nat) (o : OV), τ[i]? = some (Sl.io o) → σ[i]? = some (some (V.ref (M.ad i)))

structure Grow (M : MS) (F H F' H' : Hp) : Prop where
  there : ∀ a, H' a = none → H a = none
  frz : Sub F F'
  keep : ∀ a o, H a = some o → ¬ M.m a → H' a = some o
  free : ∀ a, F a = none → H a ≠ none → ¬ M.m a → F' a = none

theorem Grow.refl {M : MS} {F H : Hp} : Grow M F H F H := ⟨fun _ h => h, Sub.refl _, fun _ _ h _ => h, fun _ h _ _ => h⟩
theorem Grow.trans {M : MS} {F H F1 H1 F2 H2 : Hp} (a : Grow M F H F1 H1) (b : Grow M F1 H1 F2 H2) : Grow M F H F2 H2 where
  there := fun x h => a.there x (b.there x h)
  frz := a.frz.trans b.frz
  keep := fun x o h m => b.keep x o (a.keep x o h m) m
  free := fun x h e m => b.free x (a.free x h e m) (fun z => e (a.there x z)) m
theorem Grow.mono {M N : MS} {F H F' H' : Hp} (a : Grow M F H F' H') (h : ∀ x, M.m x → N.m x) : Grow N F H F' H' :=
  ⟨a.there, a.frz, fun x o e m => a.keep x o e fun z => m (h x z), fun x e e2 m => a.free x e e2 fun z => m (h x z)⟩

/-- an exception of an own class: which, its fields -/
structure Ex where
  c : Nat
  fs : List D
inductive Rs (α : Type) where
  | ok (a : α) (t : T)
  | exc (x : Ex) (t : T)
  | stuck
def Rs.bind {α β : Type} (m : Rs α) (f : α → T → Rs β) : Rs β := match m with
  | .ok a t => f a t
  | .exc x t => .exc x t
  | .stuck => .stuck

/-- what is wished of an exception: the wish of the context -/
abbrev EW := Ex → St → Hp → Prop
end U
end

section
set_option Elab.async false
set_option linter.all false
set_option maxRecDepth 100000
namespace U
open PySem PySem.Spec PyProof.Rows L2

/-- the program's exception classes: where each stands, its fields -/
structure PX where
  cls : Nat → Addr
  flds : Nat → List Str
/-- an exception's own dict: frozen as soon as it is there -/
def XD (K : PySem.W.Frag) (px : PX) (F : Hp) (x : Ex) (dd : Option Addr) : Prop :=
  (px.flds x.c = [] ∧ x.fs = [] ∧ dd = none) ∨ ∃ (d : Addr) (fl : List (Str × V)), dd = some d ∧ F d = some (.xd fl) ∧ fl.map (·.1) = px.flds x.c ∧ RepL K F (fl.map (·.2)) x.fs

/-- what is wanted behind a piece that ends so -/
def Post (K : PySem.W.Frag) (px : PX) (W : WX) (M : MS) (F H : Hp) (σ : St) {α : Type} : Rs α → (α → T → Hp → Hp → Prop) → Prop
  | .ok a τ', R => ∀ F' H', Grow M F H F' H' → SRel K M F' H' σ τ' → R a τ' F' H'
  | .exc x τ', _ => ∀ F' H', Grow M F H F' H' → SRel K M F' H' σ τ' → ∀ dd, XD K px F' x dd → W (.ref (px.cls x.c)) dd σ H'
  | .stuck, _ => False
section
variable {K : PySem.W.Frag} {px : PX} {W : WX} {M : MS} {F H F1 H1 : Hp} {σ : St} {τ : T} {α β : Type}
theorem Post.imp {m : Rs α} {R R' : α → T → Hp → Hp → Prop} (p : Post K px W M F H σ m R) (h : ∀ a τ' F' H', Grow M F H F' H' → SRel K M F' H' σ τ' → R a τ' F' H' → R' a τ' F' H') : Post K px W M F H σ m R' := by
  cases m with
  | ok a t => exact fun F' H' g s => h a t F' H' g s (p F' H' g s)
  | exc x t => exact p
  | stuck => exact p
theorem Post.from {m : Rs α} {R : α → T → Hp → Hp → Prop} (p : Post K px W M F H σ m R) (g : Grow M F H F1 H1) : Post K px W M F1 H1 σ m R := by
  cases m with
  | ok a t => exact fun F' H' g' s => p F' H' (g.trans g') s
  | exc x t => exact fun F' H' g' s => p F' H' (g.trans g') s
  | stuck => exact p
theorem Post.bind {m : Rs α} {k : α → T → Rs β} {R : β → T → Hp → Hp → Prop} (p : Post K px W M F H σ (m.bind k) R) : Post K px W M F H σ m (fun a τ' F' H' => Post K px W M F' H' σ (k a τ') R) := by
  cases m with
  | ok a t => exact fun F' H' g s => Post.from p g
  | exc x t => exact p
  | stuck => exact p
theorem Post.ok {a : α} {τ' : T} {R : α → T → Hp → Hp → Prop} (p : Post K px W M F H σ (.ok a τ') R) (s : SRel K M F H σ τ') : R a τ' F H := p F H .refl s
theorem Post.now {m : Rs α} {R : α → T → Hp → Hp → Prop} {a : α} {τ' : T} (p : Post K px W M F H σ m R) (e : m = .ok a τ') (s : SRel K M F H σ τ') : R a τ' F H := by
  subst e; exact p F H .refl s
/-- M may be smaller inside -/
theorem Post.less {N : MS} {m : Rs α} {R R' : α → T → Hp → Hp → Prop} (hN : ∀ a, N.m a → M.m a) (hs : ∀ τ' F' H', Grow N F H F' H' → SRel K N F' H' σ τ' → SRel K M F' H' σ τ') (p : Post K px W M F H σ m R)
    (h : ∀ a τ' F' H', Grow M F H F' H' → Grow N F H F' H' → SRel K N F' H' σ τ' → R a τ' F' H' → R' a τ' F' H') : Post K px W N F H σ m R' := by
  cases m with
  | ok a t => exact fun F' H' g s => h a t F' H' (g.mono hN) g s (p F' H' (g.mono hN) (hs t F' H' g s))
  | exc x t => exact fun F' H' g s => p F' H' (g.mono hN) (hs t F' H' g s)
  | stuck => exact p
end

/-! ### readings -/
def rdE (K : PySem.W.Frag) (px : PX) (W : WX) (f : T → Rs D) : TE := fun σ H Q => ∃ M F τ, SRel K M F H σ τ ∧ Post K px W M F H σ (f τ) fun d _ F' H' => ∀ v, Rep K F' v d → Q v H'
def rdT (K : PySem.W.Frag) (px : PX) (W : WX) (f : T → Rs Bool) : TT := fun σ H Q => ∃ M F τ, SRel K M F H σ τ ∧ Post K px W M F H σ (f τ) fun b _ _ H' => Q b H'
def rdA (K : PySem.W.Frag) (px : PX) (W : WX) (f : T → Rs (List D)) : TA := fun σ H Q => ∃ M F τ, SRel K M F H σ τ ∧ Post K px W M F H σ (f τ) fun ds _ F' H' => ∀ vs, RepL K F' vs ds → Q vs H'
/-- a new owned object -/
def OwnR (K : PySem.W.Frag) (M : MS) (F H : Hp) (σ : St) (τ : T) (v : V) (o : OV) : Prop :=
  ∃ a u, v = .ref a ∧ H a = some u ∧ F a = none ∧ M.m a ∧ OwnO K F o u ∧ ∀ (i : Nat) (s : Sl), τ[i]? = some s → s.mut ≠ none → σ[i]? ≠ some (some (V.ref a))
def rdO (K : PySem.W.Frag) (px : PX) (W : WX) (f : T → Rs OV) : TE := fun σ H Q => ∃ M F τ, SRel K M F H σ τ ∧ Post K px W M F H σ (f τ) fun o τ' F' H' => ∀ v, OwnR K M F' H' σ τ' v o → Q v H'

/-- the context of a proof: X stands for the pieces, W is what it wishes of exceptions -/
def JE (px : PX) (W : WX) (X : Cx) (e : Expr) (f : T → Rs D) : Prop := PE X e (rdE X.K px W f)
def JT (px : PX) (W : WX) (X : Cx) (e : Expr) (f : T → Rs Bool) : Prop := PT X e (rdT X.K px W f)
def JA (px : PX) (W : WX) (X : Cx) (es : List Expr) (f : T → Rs (List D)) : Prop := PA X es (rdA X.K px W f)
def JO (px : PX) (W : WX) (X : Cx) (e : Expr) (f : T → Rs OV) : Prop := PE X e (rdO X.K px W f)

theorem PE.imp {X : Cx} {e : Expr} {t t' : TE} (h : PE X e t) (i : ∀ σ H Q, t' σ H Q → t σ H Q) : PE X e t' := ⟨fun pins s σ H Q I q => h.run pins s σ H Q I (i _ _ _ q)⟩
theorem PT.imp {X : Cx} {e : Expr} {t t' : TT} (h : PT X e t) (i : ∀ σ H Q, t' σ H Q → t σ H Q) : PT X e t' := ⟨fun pins s σ H Q I q => h.run pins s σ H Q I (i _ _ _ q)⟩
theorem PA.imp {X : Cx} {e : List Expr} {t t' : TA} (h : PA X e t) (i : ∀ σ H Q, t' σ H Q → t σ H Q) : PA X e t' := ⟨fun p pins s σ H Q I q => h.run p pins s σ H Q I (i _ _ _ q)⟩

section
variable {K : PySem.W.Frag} {px : PX} {W : WX} {M : MS} {F H F1 H1 : Hp} {σ : St} {τ : T}
/-- one operand, then the rest -/
theorem rdE_bind {α : Type} {fa : T → Rs D} {k : D → T → Rs α} {R : α → T → Hp → Hp → Prop} {Q : VK} (s : SRel K M F H σ τ) (p : Post K px W M F H σ ((fa τ).bind k) R)
    (h : ∀ d τ1 F1 H1 v, Grow M F H F1 H1 → SRel K M F1 H1 σ τ1 → Rep K F1 v d → Post K px W M F1 H1 σ (k d τ1) R → Q v H1) : rdE K px W fa σ H Q :=
  ⟨M, F, τ, s, p.bind.imp fun d τ1 F1 H1 g s1 q v r => h d τ1 F1 H1 v g s1 r q⟩
theorem rdT_bind {α : Type} {fa : T → Rs Bool} {k : Bool → T → Rs α} {R : α → T → Hp → Hp → Prop} {Q : Bool → Hp → Prop} (s : SRel K M F H σ τ) (p : Post K px W M F H σ ((fa τ).bind k) R)
    (h : ∀ d τ1 F1 H1, Grow M F H F1 H1 → SRel K M F1 H1 σ τ1 → Post K px W M F1 H1 σ (k d τ1) R → Q d H1) : rdT K px W fa σ H Q :=
  ⟨M, F, τ, s, p.bind.imp fun d τ1 F1 H1 g s1 q => h d τ1 F1 H1 g s1 q⟩
theorem rdA_bind {α : Type} {fa : T → Rs (List D)} {k : List D → T → Rs α} {R : α → T → Hp → Hp → Prop} {Q : List V → Hp → Prop} (s : SRel K M F H σ τ) (p : Post K px W M F H σ ((fa τ).bind k) R)
    (h : ∀ ds τ1 F1 H1 vs, Grow M F H F1 H1 → SRel K M F1 H1 σ τ1 → RepL K F1 vs ds → Post K px W M F1 H1 σ (k ds τ1) R → Q vs H1) : rdA K px W fa σ H Q :=
  ⟨M, F, τ, s, p.bind.imp fun d τ1 F1 H1 g s1 q v r => h d τ1 F1 H1 v g s1 r q⟩
theorem rdO_bind {α : Type} {fa : T → Rs OV} {k : OV → T → Rs α} {R : α → T → Hp → Hp → Prop} {Q : VK} (s : SRel K M F H σ τ) (p : Post K px W M F H σ ((fa τ).bind k) R)
    (h : ∀ o τ1 F1 H1 v, Grow M F H F1 H1 → SRel K M F1 H1 σ τ1 → OwnR K M F1 H1 σ τ1 v o → Post K px W M F1 H1 σ (k o τ1) R → Q v H1) : rdO K px W fa σ H Q :=
  ⟨M, F, τ, s, p.bind.imp fun d τ1 F1 H1 g s1 q v r => h d τ1 F1 H1 v g s1 r q⟩

/-! ### the heap grows: a new frozen object -/
theorem SRel.new {p : Addr} {o : HO} (s : SRel K M F H σ τ) (hp : H p = none) : F p = none := by
  cases e : F p with
  | none => rfl
  | some u => rw [s.sub p u e] at hp; cases hp
theorem grow_new {p : Addr} {o : HO} (hp : H p = none) (hf : F p = none) : Grow M F H (upd F p o) (upd H p o) where
  there := fun a e => by
    by_cases h : a = p
    · rw [h, upd_same] at e; cases e
    · rw [upd_ne h] at e; exact e
  frz := Sub.upd hf
  keep := fun a u e _ => by rw [upd_ne (ne_of_none e hp)]; exact e
  free := fun a e n _ => by
    by_cases h : a = p
    · subst h; exact absurd hp n
    · rw [upd_ne h]; exact e
theorem SRel.lay {p : Addr} {o : HO} (s : SRel K M F H σ τ) (hp : H p = none) : SRel K M (upd F p o) (upd H p o) σ τ := by
  have hf : F p = none := s.new (o := o) hp
  refine ⟨s.len, fun a e => ?_, fun a u e => ?_, fun i d e => ?_, fun i sl ov e1 e2 => ?_, s.apart, s.io⟩
  · by_cases h : a = p
    · rw [h, upd_same] at e; cases e
    · rw [upd_ne h] at e; exact s.up a e
  · by_cases h : a = p
    · rw [h, upd_same] at e ⊢; exact e
    · rw [upd_ne h] at e ⊢; exact s.sub a u e
  · obtain ⟨v, e1, r⟩ := s.val i d e
    exact ⟨v, e1, r.mono (Sub.upd hf)⟩
  · obtain ⟨a, u, h1, h2, h3, h4, h5⟩ := s.own i sl ov e1 e2
    have ne : a ≠ p := ne_of_none h2 hp
    exact ⟨a, u, h1, by rw [upd_ne ne]; exact h2, by rw [upd_ne ne]; exact h3, h4, h5.mono (Sub.upd hf)⟩
/-- a new object that is not frozen -/
theorem grow_alloc {p : Addr} {o : HO} (hp : H p = none) : Grow M F H F (upd H p o) where
  there := fun a e => by
    by_cases h : a = p
    · rw [h, upd_same] at e; cases e
    · rw [upd_ne h] at e; exact e
  frz := Sub.refl _
  keep := fun a u e _ => by rw [upd_ne (ne_of_none e hp)]; exact e
  free := fun a e _ _ => e
theorem SRel.alloc {p : Addr} {o : HO} (s : SRel K M F H σ τ) (hp : H p = none) : SRel K M F (upd H p o) σ τ := by
  refine ⟨s.len, fun a e => ?_, fun a u e => ?_, s.val, fun i sl ov e1 e2 => ?_, s.apart, s.io⟩
  · by_cases h : a = p
    · rw [h, upd_same] at e; cases e
    · rw [upd_ne h] at e; exact s.up a e
  · rw [upd_ne (ne_of_none (s.sub a u e) hp)]; exact s.sub a u e
  · obtain ⟨a, u, h1, h2, h3, h4, h5⟩ := s.own i sl ov e1 e2
    exact ⟨a, u, h1, by rw [upd_ne (ne_of_none h2 hp)]; exact h2, h3, h4, h5⟩
theorem SRel.fresh_own {p : Addr} {u : HO} {o : OV} (s : SRel K M F H σ τ) (hp : H p = none) (h : OwnO K F o u) : OwnR K M F (upd H p u) σ τ (.ref p) o :=
  ⟨p, u, rfl, upd_same, s.new (o := u) hp, s.up p hp, h, fun i sl e m z => by
    cases q : sl.mut with
    | none => exact m q
    | some ov =>
      obtain ⟨a, w, h1, h2, _⟩ := s.own i sl ov e q
      rw [h1] at z
      cases z
      rw [hp] at h2; cases h2⟩
end
end U
end

section
set_option Elab.async false
set_option linter.all false
set_option maxRecDepth 100000
namespace U
open PySem PySem.Spec PyProof.Rows L2

def OV.toD : OV → D
  | .l ds => .lst ds
  | .d t ks vs => .dct t ks vs
/-- new frozen objects, nothing else -/
structure New (F H F' H' : Hp) : Prop where
  keep : Sub H H'
  frz : Sub F F'
  sub : Sub F' H'
  free : ∀ a, F a = none → H a ≠ none → F' a = none
section
variable {K : PySem.W.Frag} {px : PX} {W : WX} {M : MS} {F H F1 H1 F2 H2 : Hp} {σ : St} {τ : T}
theorem New.refl (h : Sub F H) : New F H F H := ⟨Sub.refl _, Sub.refl _, h, fun _ e _ => e⟩
theorem New.trans (a : New F H F1 H1) (b : New F1 H1 F2 H2) : New F H F2 H2 :=
  ⟨a.keep.trans b.keep, a.frz.trans b.frz, b.sub, fun x e n => b.free x (a.free x e n) fun z => by
    cases q : H x with
    | none => exact n q
    | some o => rw [a.keep x o q] at z; cases z⟩
theorem none_of_sub {F H : Hp} {p : Addr} (h : Sub F H) (e : H p = none) : F p = none := by
  cases q : F p with
  | none => rfl
  | some o => rw [h p o q] at e; cases e
theorem New.lay {p : Addr} {o : HO} (h : Sub F H) (hp : H p = none) : New F H (upd F p o) (upd H p o) where
  keep := Sub.upd hp
  frz := Sub.upd (none_of_sub h hp)
  sub := fun a u e => by
    by_cases q : a = p
    · rw [q, upd_same] at e ⊢; exact e
    · rw [upd_ne q] at e ⊢; exact h a u e
  free := fun a e n => by
    by_cases q : a = p
    · subst q; exact absurd hp n
    · rw [upd_ne q]; exact e
/-- .. of an object that is not frozen as yet -/
theorem New.alloc {p : Addr} {o : HO} (h : Sub F H) (hp : H p = none) : New F H F (upd H p o) where
  keep := Sub.upd hp
  frz := Sub.refl _
  sub := fun a u e => (Sub.upd hp) a u (h a u e)
  free := fun a e _ => e
theorem New.grow (n : New F H F1 H1) : Grow M F H F1 H1 where
  there := fun a e => none_of_sub n.keep e
  frz := n.frz
  keep := fun a o e _ => n.keep a o e
  free := fun a e x _ => n.free a e x
theorem New.srel (n : New F H F1 H1) (s : SRel K M F H σ τ) : SRel K M F1 H1 σ τ := by
  refine ⟨s.len, fun a e => s.up a (none_of_sub n.keep e), n.sub, fun i d e => ?_, fun i sl ov e1 e2 => ?_, s.apart, s.io⟩
  · obtain ⟨v, e1, r⟩ := s.val i d e
    exact ⟨v, e1, r.mono n.frz⟩
  · obtain ⟨a, u, h1, h2, h3, h4, h5⟩ := s.own i sl ov e1 e2
    exact ⟨a, u, h1, n.keep _ _ h2, n.free a h3 (by rw [h2]; exact fun z => nomatch z), h4, h5.mono n.frz⟩

/-- v is now d: frozen, or an owned object as it stands -/
def Now (K : PySem.W.Frag) (F H : Hp) (v : V) (d : D) : Prop := Rep K F v d ∨ ∃ a u o, v = .ref a ∧ H a = some u ∧ OwnO K F o u ∧ d = o.toD
inductive NowL (K : PySem.W.Frag) (F H : Hp) : List V → List D → Prop
  | nil : NowL K F H [] []
  | cons {v : V} {vs : List V} {d : D} {ds : List D} : Now K F H v d → NowL K F H vs ds → NowL K F H (v :: vs) (d :: ds)
theorem Now.of (h : Rep K F v d) : Now K F H v d := .inl h
theorem NowL.of : ∀ {vs : List V} {ds : List D}, RepL K F vs ds → NowL K F H vs ds
  | _, _, .nil => .nil
  | _, _, .cons h r => .cons (.inl h) (NowL.of r)
theorem Now.lst {v : V} {ds : List D} (h : Now K F H v (.lst ds)) (s : Sub F H) : ∃ a vs, v = .ref a ∧ H a = some (.lst vs) ∧ RepL K F vs ds := by
  rcases h with h | ⟨a, u, o, rfl, hu, ho, e⟩
  · cases h with
    | lst q r => exact ⟨_, _, rfl, s _ _ q, r⟩
  · cases ho with
    | l r => cases e; exact ⟨a, _, rfl, hu, r⟩
    | dK _ _ => cases e
    | dT _ _ => cases e
theorem Now.tup {v : V} {ds : List D} (h : Now K F H v (.tup ds)) (s : Sub F H) : ∃ a vs, v = .ref a ∧ H a = some (.tup vs) ∧ RepL K F vs ds := by
  rcases h with h | ⟨a, u, o, rfl, hu, ho, e⟩
  · cases h with
    | tup q r => exact ⟨_, _, rfl, s _ _ q, r⟩
  · cases ho <;> cases e
theorem Now.ptp {v : V} {ds : List D} (h : Now K F H v (.ptp ds)) (s : Sub F H) : ∃ a o vs, v = .ref a ∧ H a = some (.frz o (.tup vs)) ∧ o.dict = none ∧ RepL K F vs ds ∧ Rep K F v (.ptp ds) := by
  rcases h with h | ⟨a, u, o, rfl, hu, ho, e⟩
  · cases h with
    | ptp q k r => exact ⟨_, _, _, rfl, s _ _ q, k, r, .ptp q k r⟩
  · cases ho <;> cases e
theorem Now.int {v : V} {i : Int} (h : Now K F H v (.int i)) : v = .int i := by
  rcases h with h | ⟨a, u, o, rfl, hu, ho, e⟩
  · cases h; rfl
  · cases ho <;> cases e
theorem Now.str {v : V} {x : List Nat} (h : Now K F H v (.str x)) : v = .str (stO x) := by
  rcases h with h | ⟨a, u, o, rfl, hu, ho, e⟩
  · cases h; rfl
  · cases ho <;> cases e
theorem Now.bl {v : V} {b : Bool} (h : Now K F H v (.bl b)) : v = .bl b := by
  rcases h with h | ⟨a, u, o, rfl, hu, ho, e⟩
  · cases h; rfl
  · cases ho <;> cases e
theorem Now.non {v : V} (h : Now K F H v .non) : v = .non := by
  rcases h with h | ⟨a, u, o, rfl, hu, ho, e⟩
  · cases h; rfl
  · cases ho <;> cases e
end

/-- what a primitive hands back -/
inductive PR where
  | d (d : D)
  | o (o : OV)
def PR.toD : PR → D
  | .d z => z
  | .o z => z.toD
/-- the wish about a primitive's result -/
def PW (K : PySem.W.Frag) (F H : Hp) (r : PR) (Q : VK) : Prop := match r with
  | .d d => ∀ v F' H', New F H F' H' → Rep K F' v d → Q v H'
  | .o o => ∀ p u F' H', New F H F' H' → H' p = none → OwnO K F' o u → Q (.ref p) (upd H' p u)
def r2 (K : PySem.W.Frag) (g : D → D → Option PR) : R2 := fun x y H Q => ∃ F d e r, Sub F H ∧ Now K F H x d ∧ Now K F H y e ∧ g d e = some r ∧ PW K F H r Q
def r1 (K : PySem.W.Frag) (g : D → Option PR) : V → Hp → VK → Prop := fun x H Q => ∃ F d r, Sub F H ∧ Now K F H x d ∧ g d = some r ∧ PW K F H r Q
def rC (K : PySem.W.Frag) (g : List D → Option PR) : List V → Hp → VK → Prop := fun xs H Q => ∃ F ds r, Sub F H ∧ NowL K F H xs ds ∧ g ds = some r ∧ PW K F H r Q
def rM (K : PySem.W.Frag) (g : D → List D → Option PR) : V → List V → Hp → VK → Prop := fun x xs H Q => ∃ F d ds r, Sub F H ∧ Now K F H x d ∧ NowL K F H xs ds ∧ g d ds = some r ∧ PW K F H r Q

section
variable {K : PySem.W.Frag} {F H : Hp} {Q : VK}
theorem PW.scal {d : D} {v : V} (s : Sub F H) (p : PW K F H (.d d) Q) (r : Rep K F v d) : Q v H := p v F H (.refl s) r
theorem PW.lst {ds : List D} {vs : List V} (s : Sub F H) (p : PW K F H (.o (.l ds)) Q) (r : RepL K F vs ds) : ∀ l, H l = none → Q (.ref l) (upd H l (.lst vs)) :=
  fun l hl => p l _ F H (.refl s) hl (.l r)
theorem PW.tup {ds : List D} {vs : List V} (s : Sub F H) (p : PW K F H (.d (.tup ds)) Q) (r : RepL K F vs ds) : ∀ l, H l = none → Q (.ref l) (upd H l (.tup vs)) :=
  fun l hl => p (.ref l) _ _ (.lay s hl) (.tup upd_same (r.mono (Sub.upd (none_of_sub s hl))))
end

/-! ### ints -/
section
variable {X : Cx}
def gInt (c : Int → Int → Bool) (f : Int → Int → Int) : D → D → Option PR
  | .int i, .int j => if c i j then some (.d (.int (f i j))) else none
  | _, _ => none
theorem gInt_some {c : Int → Int → Bool} {f : Int → Int → Int} {d e : D} {r : PR} (h : gInt c f d e = some r) : ∃ i j, d = .int i ∧ e = .int j ∧ c i j = true ∧ r = .d (.int (f i j)) := by
  cases d with
  | int i => cases e with
    | int j =>
      have h : (if c i j = true then some (PR.d (D.int (f i j))) else none) = some r := h
      by_cases q : c i j = true
      · rw [if_pos q] at h; exact ⟨i, j, rfl, rfl, q, (Option.some.inj h).symm⟩
      · rw [if_neg q] at h; cases h
    | _ => cases h
  | _ => cases h
theorem op_int {g : Value → Value → Sem Value} {C : Int → Int → Prop} {c : Int → Int → Bool} {f : Int → Int → Int} (h : OpR X g (rI C fun i j => .int (f i j))) (hc : ∀ i j, c i j = true → C i j) : OpR X g (r2 X.K (gInt c f)) := by
  intro pins s σ H x y v u Q I rx ry ⟨F, d, e, r, sb, nx, ny, hg, pw⟩
  obtain ⟨i, j, rfl, rfl, hcc, rfl⟩ := gInt_some hg
  exact h pins s σ H x y v u Q I rx ry ⟨i, j, nx.int, ny.int, hc i j hcc, pw.scal sb (.int _)⟩
theorem op_int0 {g : Value → Value → Sem Value} {f : Int → Int → Int} (h : OpR X g (rI0 fun i j => .int (f i j))) : OpR X g (r2 X.K (gInt (fun _ _ => true) f)) := by
  intro pins s σ H x y v u Q I rx ry ⟨F, d, e, r, sb, nx, ny, hg, pw⟩
  obtain ⟨i, j, rfl, rfl, hcc, rfl⟩ := gInt_some hg
  exact h pins s σ H x y v u Q I rx ry ⟨i, j, nx.int, ny.int, pw.scal sb (.int _)⟩
/-- products: one factor short, or both of few bits -/
def cMul (i j : Int) : Bool := decide (i.natAbs < 2 ^ 64) || decide (j.natAbs < 2 ^ 64) || decide (i.natAbs.log2 + j.natAbs.log2 < 1000000)
theorem cMul_ok {i j : Int} (h : cMul i j = true) : CMul i j ∨ CMulW i j := by
  unfold cMul at h
  simp only [Bool.or_eq_true, decide_eq_true_eq] at h
  rcases h with (h | h) | h
  · exact .inl (.inl (by omega))
  · exact .inl (.inr (by omega))
  · exact .inr h
theorem op_mulD : OpR X (binaryOp .Mult) (r2 X.K (gInt cMul fun i j => i * j)) := by
  intro pins s σ H x y v u Q I rx ry ⟨F, d, e, r, sb, nx, ny, hg, pw⟩
  obtain ⟨i, j, rfl, rfl, hcc, rfl⟩ := gInt_some hg
  rcases cMul_ok hcc with c | c
  · exact op_mul pins s σ H x y v u Q I rx ry ⟨i, j, nx.int, ny.int, c, pw.scal sb (.int _)⟩
  · exact op_mulW pins s σ H x y v u Q I rx ry ⟨i, j, nx.int, ny.int, c, pw.scal sb (.int _)⟩
def cDiv (_ j : Int) : Bool := decide (0 < j) && decide (j.natAbs.log2 < 9000)
theorem op_divD : OpR X (binaryOp .FloorDiv) (r2 X.K (gInt cDiv fun i j => i / j)) := op_int op_fdivW fun i j h => by
  unfold cDiv at h; simp only [Bool.and_eq_true, decide_eq_true_eq] at h; exact h
theorem op_modD : OpR X (binaryOp .Mod) (r2 X.K (gInt (fun _ j => decide (0 < j)) fun i j => i % j)) := op_int op_mod fun i j h => by simpa using h
def cPow (i j : Int) : Bool := decide (0 ≤ j) && decide (j ≤ 1000) && decide (i.natAbs < 2 ^ 64)
theorem op_powD : OpR X (binaryOp .Pow) (r2 X.K (gInt cPow fun i j => i ^ j.toNat)) := op_int op_pow fun i j h => by
  unfold cPow at h; simp only [Bool.and_eq_true, decide_eq_true_eq] at h
  refine ⟨h.1.1, ?_, h.2⟩
  have := h.1.2
  omega
theorem op_addI : OpR X (binaryOp .Add) (r2 X.K (gInt (fun _ _ => true) fun i j => i + j)) := op_int0 op_add
theorem op_subI : OpR X (binaryOp .Sub) (r2 X.K (gInt (fun _ _ => true) fun i j => i - j)) := op_int0 op_sub
end
end U
end

section
set_option Elab.async false
set_option linter.all false
set_option maxRecDepth 100000
namespace U
open PySem PySem.Spec PyProof.Rows L2

/-! ### D as the library's data -/
mutual
def D.py : D → PyData
  | .non => .none
  | .bl b => .bool b
  | .int i => .int i
  | .str x => .str (stO x)
  | .tup xs => .tuple (D.pyL xs)
  | .lst xs => .list (D.pyL xs)
  | .dct _ _ _ => .dict []
  | .exc _ _ => .dict []
  | .ptp _ => .dict []
  | .scr _ => .dict []
def D.pyL : List D → List PyData
  | [] => []
  | d :: ds => d.py :: D.pyL ds
end

mutual
def D.ok : D → Nat → Bool
  | .non, _ => true
  | .bl _, _ => true
  | .int _, _ => true
  | .str x, _ => x.all (· < 0x110000)
  | .tup xs, n => match n with
    | 0 => false
    | n + 1 => D.okL xs n
  | .lst xs, n => match n with
    | 0 => false
    | n + 1 => D.okL xs n
  | .dct _ _ _, _ => false
  | .exc _ _, _ => false
  | .ptp _, _ => false
  | .scr _, _ => false
def D.okL : List D → Nat → Bool
  | [], _ => true
  | d :: ds, n => d.ok n && D.okL ds n
end
mutual
theorem D.ok_lay : ∀ (d : D) (n : Nat), d.ok n = true → d.py.canLay0 = true ∧ d.py.depth ≤ n
  | .non, _, _ => ⟨by simp [D.py, PyData.canLay0], by simp [D.py, PyData.depth]⟩
  | .bl _, _, _ => ⟨by simp [D.py, PyData.canLay0], by simp [D.py, PyData.depth]⟩
  | .int _, _, _ => ⟨by simp [D.py, PyData.canLay0], by simp [D.py, PyData.depth]⟩
  | .str x, _, h => by
    refine ⟨?_, by simp [D.py, PyData.depth]⟩
    simp only [D.py, PyData.canLay0]
    show (stO x).cps.all _ = true
    simpa [D.ok] using h
  | .tup xs, 0, h => by simp [D.ok] at h
  | .lst xs, 0, h => by simp [D.ok] at h
  | .tup xs, n + 1, h => by
    obtain ⟨a, b⟩ := D.okL_lay xs n (by simpa [D.ok] using h)
    exact ⟨by simpa [D.py, PyData.canLay0] using a, by simp only [D.py, PyData.depth]; omega⟩
  | .lst xs, n + 1, h => by
    obtain ⟨a, b⟩ := D.okL_lay xs n (by simpa [D.ok] using h)
    exact ⟨by simpa [D.py, PyData.canLay0] using a, by simp only [D.py, PyData.depth]; omega⟩
  | .dct _ _ _, _, h => by simp [D.ok] at h
  | .exc _ _, _, h => by simp [D.ok] at h
  | .ptp _, _, h => by simp [D.ok] at h
  | .scr _, _, h => by simp [D.ok] at h
theorem D.okL_lay : ∀ (ds : List D) (n : Nat), D.okL ds n = true → PyData.canLayAll0 (D.pyL ds) = true ∧ PyData.depthAll (D.pyL ds) ≤ n
  | [], _, _ => ⟨by simp [D.pyL, PyData.canLayAll0], by simp [D.pyL, PyData.depthAll]⟩
  | d :: ds, n, h => by
    simp only [D.okL, Bool.and_eq_true] at h
    obtain ⟨a, b⟩ := D.ok_lay d n h.1
    obtain ⟨a', b'⟩ := D.okL_lay ds n h.2
    exact ⟨by simp [D.pyL, PyData.canLayAll0, a, a'], by simp only [D.pyL, PyData.depthAll]; omega⟩
end
theorem D.ok_shaped {d : D} (h : d.ok 60 = true) : SeqAt.shaped d.py = true := by
  obtain ⟨a, b⟩ := D.ok_lay d 60 h
  show (d.py.canLay0 && decide (d.py.depth ≤ 64)) = true
  rw [a, decide_eq_true (by omega)]; rfl
section
variable {K : PySem.W.Frag} {F H : Hp}
mutual
theorem Rep.dp (s : Sub F H) : ∀ {v : V} {d : D} {n : Nat}, Rep K F v d → d.ok n = true → Dp K H v d.py
  | _, _, _, .non, _ => by simp only [D.py]; exact .non
  | _, _, _, .bl b, _ => by simp only [D.py]; exact .bl b
  | _, _, _, .int i, _ => by simp only [D.py]; exact .int i
  | _, _, _, .str x, _ => by simp only [D.py]; exact .str _
  | _, _, 0, .tup q r, h => by simp [D.ok] at h
  | _, _, 0, .lst q r, h => by simp [D.ok] at h
  | _, _, n + 1, .tup q r, h => by simp only [D.py]; exact .tup (.inl (.inl (s _ _ q))) (RepL.dp s r (n := n) (by simpa [D.ok] using h))
  | _, _, n + 1, .lst q r, h => by simp only [D.py]; exact .lst (.inl (.inl (s _ _ q))) (RepL.dp s r (n := n) (by simpa [D.ok] using h))
  | _, _, _, .dK _ _ _, h => by simp [D.ok] at h
  | _, _, _, .dT _ _ _, h => by simp [D.ok] at h
  | _, _, _, .ptp _ _ _, h => by simp [D.ok] at h
  | _, _, _, .scr _, h => by simp [D.ok] at h
theorem RepL.dp (s : Sub F H) : ∀ {vs : List V} {ds : List D} {n : Nat}, RepL K F vs ds → D.okL ds n = true → DpAll K H vs (D.pyL ds)
  | _, _, _, .nil, _ => by simp only [D.pyL]; exact .nil
  | _, _, n, .cons h r, e => by
    simp only [D.okL, Bool.and_eq_true] at e
    simp only [D.pyL]
    exact .cons (Rep.dp s h e.1) (RepL.dp s r e.2)
end
theorem Now.dp (s : Sub F H) {v : V} {d : D} {n : Nat} (h : Now K F H v d) (e : d.ok n = true) : Dp K H v d.py := by
  rcases h with h | ⟨a, u, o, rfl, hu, ho, rfl⟩
  · exact h.dp s e
  · cases ho with
    | l r => cases n with
      | zero => simp [OV.toD, D.ok] at e
      | succ n => simp only [OV.toD, D.py]; exact .lst (.inl (.inl hu)) (RepL.dp s r (n := n) (by simpa [OV.toD, D.ok] using e))
    | dK _ _ => simp [OV.toD, D.ok] at e
    | dT _ _ => simp [OV.toD, D.ok] at e
end

/-! ### == -/
mutual
def D.eqb : D → D → Bool
  | .non, e => match e with | .non => true | _ => false
  | .bl a, e => match e with | .bl b => a == b | .int j => (if a then 1 else 0) == j | _ => false
  | .int i, e => match e with | .int j => i == j | .bl b => i == (if b then 1 else 0) | _ => false
  | .str x, e => match e with | .str y => x == y | _ => false
  | .tup xs, e => match e with | .tup ys => D.eqbL xs ys | _ => false
  | .lst xs, e => match e with | .lst ys => D.eqbL xs ys | _ => false
  | .dct _ _ _, _ => false
  | .exc _ _, _ => false
  | .ptp _, _ => false
  | .scr _, _ => false
def D.eqbL : List D → List D → Bool
  | [], es => match es with | [] => true | _ => false
  | d :: ds, es => match es with | e :: es => d.eqb e && D.eqbL ds es | [] => false
end
theorem stO_beq (x y : List Nat) : (stO x == stO y) = (x == y) := by
  by_cases h : x = y
  · subst h; simp
  · have h2 : ¬ stO x = stO y := fun e => h (by
      have := congrArg (fun z : Str => z.cps.toList) e
      simpa using this)
    rw [beq_eq_false_iff_ne.mpr h, beq_eq_false_iff_ne.mpr h2]
mutual
theorem D.eqv_py : ∀ (d e : D), PyData.eqv d.py e.py = d.eqb e
  | .non, e => by cases e <;> simp [D.py, PyData.eqv, D.eqb]
  | .bl a, e => by cases e <;> simp [D.py, PyData.eqv, D.eqb]
  | .int i, e => by cases e <;> simp [D.py, PyData.eqv, D.eqb]
  | .str x, e => by cases e <;> simp only [D.py, PyData.eqv, D.eqb]; exact stO_beq _ _
  | .tup xs, e => by cases e <;> simp only [D.py, PyData.eqv, D.eqb]; exact D.eqv_pyL _ _
  | .lst xs, e => by cases e <;> simp only [D.py, PyData.eqv, D.eqb]; exact D.eqv_pyL _ _
  | .dct _ _ _, e => by cases e <;> simp [D.py, PyData.eqv, D.eqb]
  | .exc _ _, e => by cases e <;> simp [D.py, PyData.eqv, D.eqb]
  | .ptp _, e => by cases e <;> simp [D.py, PyData.eqv, D.eqb]
  | .scr _, e => by cases e <;> simp [D.py, PyData.eqv, D.eqb]
theorem D.eqv_pyL : ∀ (ds es : List D), PyData.eqvAll (D.pyL ds) (D.pyL es) = D.eqbL ds es
  | [], es => by cases es <;> simp [D.pyL, PyData.eqvAll, D.eqbL]
  | d :: ds, [] => by simp [D.pyL, PyData.eqvAll, D.eqbL]
  | d :: ds, e :: es => by simp only [D.pyL, PyData.eqvAll, D.eqbL, D.eqv_py d e, D.eqv_pyL ds es]
end
def gEq (neg : Bool) (d e : D) : Option PR := if d.ok 60 && e.ok 60 then some (.d (.bl (neg != d.eqb e))) else none
section
variable {X : Cx}
theorem op_eqU (hu : X.A.units + 64 < cLine) : OpR X (compareOp .Eq) (r2 X.K (gEq false)) := by
  intro pins s σ H x y v u Q I rx ry ⟨F, d, e, r, sb, nx, ny, hg, pw⟩
  unfold gEq at hg
  by_cases c : (d.ok 60 && e.ok 60) = true
  · rw [if_pos c] at hg
    cases hg
    rw [Bool.and_eq_true] at c
    refine op_eqD hu pins s σ H x y v u Q I rx ry ⟨d.py, e.py, nx.dp sb c.1, ny.dp sb c.2, D.ok_shaped c.1, D.ok_shaped c.2, ?_⟩
    rw [D.eqv_py]
    have := pw.scal sb (.bl _)
    simpa using this
  · rw [if_neg c] at hg; cases hg
theorem op_neU (hu : X.A.units + 64 < cLine) : OpR X (compareOp .NotEq) (r2 X.K (gEq true)) := by
  intro pins s σ H x y v u Q I rx ry ⟨F, d, e, r, sb, nx, ny, hg, pw⟩
  unfold gEq at hg
  by_cases c : (d.ok 60 && e.ok 60) = true
  · rw [if_pos c] at hg
    cases hg
    rw [Bool.and_eq_true] at c
    refine op_neD hu pins s σ H x y v u Q I rx ry ⟨d.py, e.py, nx.dp sb c.1, ny.dp sb c.2, D.ok_shaped c.1, D.ok_shaped c.2, ?_⟩
    rw [D.eqv_py]
    have := pw.scal sb (.bl _)
    simpa using this
  · rw [if_neg c] at hg; cases hg
end

/-! ### < of data that are alike -/
mutual
def D.like : D → D → Bool
  | .non, e => match e with | .non => true | _ => false
  | .bl _, e => match e with | .bl _ => true | _ => false
  | .int _, e => match e with | .int _ => true | _ => false
  | .str _, e => match e with | .str _ => true | _ => false
  | .tup xs, e => match e with | .tup ys => D.likeL xs ys | _ => false
  | .lst xs, e => match e with | .lst ys => D.likeL xs ys | _ => false
  | .dct _ _ _, _ => false
  | .exc _ _, _ => false
  | .ptp _, _ => false
  | .scr _, _ => false
def D.likeL : List D → List D → Bool
  | [], _ => true
  | d :: ds, es => match es with | e :: es => d.like e && D.likeL ds es | [] => true
end
mutual
theorem D.like_py : ∀ (d e : D), d.like e = true → PySem.W.alike d.py e.py = true
  | .non, e, h => by cases e <;> first | (simp [D.like] at h; done) | simp [D.py, PySem.W.alike]
  | .bl a, e, h => by cases e <;> first | (simp [D.like] at h; done) | simp [D.py, PySem.W.alike]
  | .int i, e, h => by cases e <;> first | (simp [D.like] at h; done) | simp [D.py, PySem.W.alike]
  | .str x, e, h => by cases e <;> first | (simp [D.like] at h; done) | simp [D.py, PySem.W.alike]
  | .tup xs, e, h => by
    cases e <;> first | (simp [D.like] at h; done) | skip
    simp only [D.py, PySem.W.alike]; exact D.like_pyL _ _ (by simpa [D.like] using h)
  | .lst xs, e, h => by
    cases e <;> first | (simp [D.like] at h; done) | skip
    simp only [D.py, PySem.W.alike]; exact D.like_pyL _ _ (by simpa [D.like] using h)
  | .dct _ _ _, e, h => by simp [D.like] at h
  | .exc _ _, e, h => by simp [D.like] at h
  | .ptp _, e, h => by simp [D.like] at h
  | .scr _, e, h => by simp [D.like] at h
theorem D.like_pyL : ∀ (ds es : List D), D.likeL ds es = true → PySem.W.alikeAll (D.pyL ds) (D.pyL es) = true
  | [], es, _ => by simp [D.pyL, PySem.W.alikeAll]
  | d :: ds, [], _ => by simp [D.pyL, PySem.W.alikeAll]
  | d :: ds, e :: es, h => by
    simp only [D.likeL, Bool.and_eq_true] at h
    simp only [D.pyL, PySem.W.alikeAll, D.like_py d e h.1, D.like_pyL ds es h.2, Bool.and_self]
end
mutual
def D.lt : D → D → Bool
  | .non, _ => false
  | .bl a, e => match e with | .bl b => !a && b | _ => false
  | .int i, e => match e with | .int j => decide (i < j) | _ => false
  | .str x, e => match e with | .str y => decide (x < y) | _ => false
  | .tup xs, e => match e with | .tup ys => D.ltL xs ys | _ => false
  | .lst xs, e => match e with | .lst ys => D.ltL xs ys | _ => false
  | .dct _ _ _, _ => false
  | .exc _ _, _ => false
  | .ptp _, _ => false
  | .scr _, _ => false
def D.ltL : List D → List D → Bool
  | [], es => match es with | [] => false | _ => true
  | d :: ds, es => match es with | e :: es => if d.eqb e then D.ltL ds es else d.lt e | [] => false
end
theorem toks_nil_cons (x : PyData) (xs : List PyData) : PyProof.Rows.lexLt PyProof.Rows.itemOrd (PySem.W.keyToksAll []) (PySem.W.keyToksAll (x :: xs)) = true := by
  simp only [PySem.W.keyToksAll]; rfl
theorem toks_cons_nil (x : PyData) (xs : List PyData) : PyProof.Rows.lexLt PyProof.Rows.itemOrd (PySem.W.keyToksAll (x :: xs)) (PySem.W.keyToksAll []) = false := by
  simp only [PySem.W.keyToksAll]; rfl
theorem toks_nil_nil : PyProof.Rows.lexLt PyProof.Rows.itemOrd (PySem.W.keyToksAll []) (PySem.W.keyToksAll []) = false := PyProof.Rows.lex_irrefl _
mutual
theorem D.lt_py : ∀ (d e : D), d.like e = true → PySem.W.dataLt d.py e.py = d.lt e
  | .non, e, h => by cases e <;> first | (simp [D.like] at h; done) | skip; simp only [D.py, D.lt]; exact PyProof.Rows.lex_irrefl _
  | .bl a, e, h => by
    cases e <;> first | (simp [D.like] at h; done) | skip
    simp only [D.py, D.lt, PySem.W.dataLt_bool]
    rename_i b
    cases a <;> cases b <;> decide
  | .int i, e, h => by cases e <;> first | (simp [D.like] at h; done) | skip; simp only [D.py, D.lt]; exact PySem.W.dataLt_int _ _
  | .str x, e, h => by cases e <;> first | (simp [D.like] at h; done) | skip; simp only [D.py, D.lt]; rw [PySem.W.dataLt_str]
  | .tup xs, e, h => by
    cases e <;> first | (simp [D.like] at h; done) | skip
    simp only [D.py, D.lt, PySem.W.dataLt_tuple]; exact D.lt_pyL _ _ (by simpa [D.like] using h)
  | .lst xs, e, h => by
    cases e <;> first | (simp [D.like] at h; done) | skip
    simp only [D.py, D.lt, PySem.W.dataLt_list]; exact D.lt_pyL _ _ (by simpa [D.like] using h)
  | .dct _ _ _, e, h => by simp [D.like] at h
  | .exc _ _, e, h => by simp [D.like] at h
  | .ptp _, e, h => by simp [D.like] at h
  | .scr _, e, h => by simp [D.like] at h
theorem D.lt_pyL : ∀ (ds es : List D), D.likeL ds es = true → PyProof.Rows.lexLt PyProof.Rows.itemOrd (PySem.W.keyToksAll (D.pyL ds)) (PySem.W.keyToksAll (D.pyL es)) = D.ltL ds es
  | [], [], _ => by simp only [D.pyL, D.ltL]; exact toks_nil_nil
  | [], e :: es, _ => by simp only [D.pyL, D.ltL]; exact toks_nil_cons _ _
  | d :: ds, [], _ => by simp only [D.pyL, D.ltL]; exact toks_cons_nil _ _
  | d :: ds, e :: es, h => by
    simp only [D.likeL, Bool.and_eq_true] at h
    simp only [D.pyL, D.ltL]
    rw [PySem.W.dataLt_cons (D.like_py d e h.1), D.eqv_py, D.lt_pyL ds es h.2, D.lt_py d e h.1]
end
inductive CmpK where | lt | gt | le | ge
def CmpK.op : CmpK → CmpOp
  | .lt => .Lt | .gt => .Gt | .le => .LtE | .ge => .GtE
def CmpK.val (k : CmpK) (d e : D) : Bool := match k with
  | .lt => d.lt e | .gt => e.lt d | .le => !e.lt d | .ge => !d.lt e
def D.isNon : D → Bool | .non => true | _ => false
def gCmp (k : CmpK) (d e : D) : Option PR := if d.ok 60 && e.ok 60 && d.like e && e.like d && !d.isNon then some (.d (.bl (k.val d e))) else none
theorem py_ne_none {d : D} (h : d.isNon = false) : d.py ≠ .none := by
  cases d <;> first | (simp [D.isNon] at h; done) | (simp only [D.py]; intro z; cases z)
section
variable {X : Cx}
theorem op_cmpU (k : CmpK) (hu : X.A.units + 64 < cLine) : OpR X (compareOp k.op) (r2 X.K (gCmp k)) := by
  intro pins s σ H x y v u Q I rx ry ⟨F, d, e, r, sb, nx, ny, hg, pw⟩
  unfold gCmp at hg
  by_cases c : (d.ok 60 && e.ok 60 && d.like e && e.like d && !d.isNon) = true
  · rw [if_pos c] at hg
    cases hg
    simp only [Bool.and_eq_true, Bool.not_eq_true'] at c
    obtain ⟨⟨⟨⟨c1, c2⟩, c3⟩, c4⟩, c5⟩ := c
    obtain ⟨as, ra⟩ := Dp.reads I d.py x v (nx.dp sb c1) rx
    obtain ⟨bs, rb⟩ := Dp.reads I e.py y u (ny.dp sb c2) ry
    have hd := (D.ok_lay d 60 c1).2
    have hroom : X.A.units + min d.py.depth e.py.depth < cLine := by omega
    have fin : EP X pins σ Q (.bool (k.val d e)) s := ⟨.bl _, H, I, rfl, pw.scal sb (.bl _)⟩
    cases k with
    | lt => exact PySem.W.lt_data ra rb (D.like_py d e c3) (py_ne_none c5) hroom (by rw [D.lt_py d e c3]; exact fin)
    | gt => exact PySem.W.gt_data ra rb (D.like_py d e c3) (py_ne_none c5) hroom (by rw [D.lt_py e d c4]; exact fin)
    | le => exact PySem.W.le_data ra rb (D.like_py d e c3) (py_ne_none c5) hroom (by rw [D.lt_py e d c4]; exact fin)
    | ge => exact PySem.W.ge_data ra rb (D.like_py d e c3) (py_ne_none c5) hroom (by rw [D.lt_py d e c3]; exact fin)
  · rw [if_neg c] at hg; cases hg
end
end U
end

section
set_option Elab.async false
set_option linter.all false
set_option maxRecDepth 100000
namespace U
open PySem PySem.Spec PyProof.Rows L2

section
variable {K : PySem.W.Frag} {F H : Hp}
theorem Now.tupR {v : V} {ds : List D} (h : Now K F H v (.tup ds)) : Rep K F v (.tup ds) := by
  rcases h with h | ⟨a, u, o, rfl, hu, ho, e⟩
  · exact h
  · cases ho <;> cases e
end
/-! ### + -/
def lim : Nat := 1000000
theorem lim_ok {n : Nat} (h : n ≤ lim) : n ≤ sizeLine := Nat.le_trans h (by rw [sizeLine_eq]; decide)
def gAdd (d e : D) : Option PR := match d with
  | .int i => match e with | .int j => some (.d (.int (i + j))) | _ => none
  | .str x => match e with | .str y => if x.length + y.length ≤ lim then some (.d (.str (x ++ y))) else none | _ => none
  | .lst xs => match e with | .lst ys => if xs.length + ys.length ≤ lim then some (.o (.l (xs ++ ys))) else none | _ => none
  | .tup xs => match e with | .tup ys => if xs.length + ys.length ≤ lim then some (.d (.tup (xs ++ ys))) else none | _ => none
  | _ => none
theorem ite_some {c : Prop} [Decidable c] {α : Type} {a b : α} (h : (if c then some a else none) = some b) : c ∧ a = b := by
  by_cases q : c
  · rw [if_pos q] at h; exact ⟨q, Option.some.inj h⟩
  · rw [if_neg q] at h; cases h
theorem stO_append (x y : List Nat) : stO x ++ stO y = stO (x ++ y) := by
  show Str.mk (x.toArray ++ y.toArray) = _
  simp
theorem stO_length (x : List Nat) : (stO x).length = x.length := by
  show x.toArray.size = _
  simp
section
variable {X : Cx}
theorem op_addU : OpR X (binaryOp .Add) (r2 X.K gAdd) := by
  intro pins s σ H x y v u Q I rx ry ⟨F, d, e, r, sb, nx, ny, hg, pw⟩
  cases d with
  | int i =>
    cases e <;> first | (cases hg; done) | skip
    cases hg
    exact op_add pins s σ H x y v u Q I rx ry ⟨_, _, nx.int, ny.int, pw.scal sb (.int _)⟩
  | str a =>
    cases e <;> first | (cases hg; done) | skip
    rename_i b
    obtain ⟨c, rfl⟩ := ite_some hg
    refine op_add_str pins s σ H x y v u Q I rx ry ⟨_, _, nx.str, ny.str, ?_, ?_⟩
    · rw [stO_length, stO_length]; exact lim_ok c
    · rw [stO_append]; exact pw.scal sb (.str _)
  | lst as =>
    cases e <;> first | (cases hg; done) | skip
    rename_i bs
    obtain ⟨c, rfl⟩ := ite_some hg
    obtain ⟨l, xs, rfl, hx, r1⟩ := nx.lst sb
    obtain ⟨b, zs, rfl, hz, r2⟩ := ny.lst sb
    have l1 := r1.length
    have l2 := r2.length
    exact op_cat pins s σ H _ _ v u Q I rx ry ⟨l, b, xs, zs, rfl, rfl, hx, hz, by rw [l1, l2]; exact lim_ok c, pw.lst sb (r1.append r2)⟩
  | tup as =>
    cases e <;> first | (cases hg; done) | skip
    rename_i bs
    obtain ⟨c, rfl⟩ := ite_some hg
    obtain ⟨l, xs, rfl, hx, r1⟩ := nx.tup sb
    obtain ⟨b, zs, rfl, hz, r2⟩ := ny.tup sb
    have l1 := r1.length
    have l2 := r2.length
    have hl := lim_ok c
    refine op_catA pins s σ H _ _ v u Q I rx ry ⟨l, b, xs, zs, rfl, rfl, .of hx, .of hz, by omega, fun e => ?_, fun _ e => ?_, fun _ _ => pw.tup sb (r1.append r2)⟩
    · subst e
      cases r1
      exact pw.scal sb (by simpa using ny.tupR)
    · subst e
      cases r2
      exact pw.scal sb (by simpa using nx.tupR)
  | _ => cases hg
end

/-! ### * -/
def rep (k : Int) (xs : List D) : List D := (List.replicate k.toNat xs).flatten
theorem RepL.rep {K : PySem.W.Frag} {F : Hp} {vs : List V} {ds : List D} (h : RepL K F vs ds) : ∀ n : Nat, RepL K F (List.replicate n vs).flatten (List.replicate n ds).flatten
  | 0 => by simpa using RepL.nil
  | n + 1 => by simp only [List.replicate_succ, List.flatten_cons]; exact h.append (RepL.rep h n)
def gMul (d e : D) : Option PR := match d with
  | .int i => match e with | .int j => if cMul i j then some (.d (.int (i * j))) else none | _ => none
  | .lst xs => match e with | .int k => if xs.length * k.toNat ≤ lim ∧ k.natAbs < 2 ^ 63 then some (.o (.l (rep k xs))) else none | _ => none
  | .tup xs => match e with | .int k => if 2 ≤ k ∧ k ≤ 1000 ∧ xs.length ≤ 1000 ∧ 0 < xs.length then some (.d (.tup (rep k xs))) else none | _ => none
  | _ => none
section
variable {X : Cx}
theorem op_mulU : OpR X (binaryOp .Mult) (r2 X.K gMul) := by
  intro pins s σ H x y v u Q I rx ry ⟨F, d, e, r, sb, nx, ny, hg, pw⟩
  cases d with
  | int i =>
    cases e <;> first | (cases hg; done) | skip
    rename_i j
    obtain ⟨c, rfl⟩ := ite_some hg
    exact op_mulD pins s σ H x y v u Q I rx ry ⟨F, .int i, .int j, _, sb, nx, ny, by show (if cMul i j = true then _ else _) = _; rw [if_pos c], pw⟩
  | lst as =>
    cases e <;> first | (cases hg; done) | skip
    rename_i k
    obtain ⟨⟨c1, c0⟩, rfl⟩ := ite_some hg
    have c2 : -(2 ^ 63) ≤ k := by omega
    have c3 : k < 2 ^ 63 := by omega
    obtain ⟨l, xs, rfl, hx, r1⟩ := nx.lst sb
    have l1 := r1.length
    exact op_rep pins s σ H _ y v u Q I rx ry ⟨l, k, xs, rfl, ny.int, hx, c2, c3, by rw [l1]; exact lim_ok c1, pw.lst sb (RepL.rep r1 _)⟩
  | tup as =>
    cases e <;> first | (cases hg; done) | skip
    rename_i k
    obtain ⟨⟨c1, c2, c3, c4⟩, rfl⟩ := ite_some hg
    obtain ⟨l, xs, rfl, hx, r1⟩ := nx.tup sb
    have l1 := r1.length
    exact op_repT pins s σ H _ y v u Q I rx ry ⟨l, k, xs, rfl, ny.int, .of hx, fun z => by subst z; simp at l1; omega, c1, c2, by omega, pw.tup sb (RepL.rep r1 _)⟩
  | _ => cases hg
end

/-! ### in, not in -/
def D.mem (x : D) (ds : List D) : Bool := ds.any fun z => z.eqb x
def occ (x y : List Nat) : Bool := !(Builtin.Str.occurrences (stO y) (stO x) 0 (stO y).length 1).isEmpty
def gIn (neg : Bool) (d e : D) : Option PR := match e with
  | .lst ds => if d.ok 60 && D.okL ds 60 then some (.d (.bl (neg != d.mem ds))) else none
  | .tup ds => if d.ok 60 && D.okL ds 60 then some (.d (.bl (neg != d.mem ds))) else none
  | .str y => match d with | .str x => some (.d (.bl (neg != occ x y))) | _ => none
  | _ => none
theorem any_py {d : D} : ∀ ds : List D, (D.pyL ds).any (fun z => PyData.eqv z d.py) = d.mem ds
  | [] => rfl
  | e :: ds => by
    simp only [D.pyL, List.any_cons, D.eqv_py, D.mem]
    rw [any_py ds]; rfl
section
variable {X : Cx}
theorem inU_core (neg : Bool) (hu : X.A.units + 65 < cLine) : OpR X (compareOp (if neg then .NotIn else .In)) (r2 X.K (gIn neg)) := by
  intro pins s σ H x y v u Q I rx ry ⟨F, d, e, r, sb, nx, ny, hg, pw⟩
  have room : ∀ {ds : List D}, (d.ok 60 && D.okL ds 60) = true → X.A.units + 1 + min (PyData.depthAll (D.pyL ds)) d.py.depth < cLine := fun {ds} c => by
    rw [Bool.and_eq_true] at c
    have := (D.ok_lay d 60 c.1).2
    omega
  cases e with
  | lst ds =>
    obtain ⟨c, rfl⟩ := ite_some hg
    have hr := room c
    rw [Bool.and_eq_true] at c
    obtain ⟨as, ra⟩ := Dp.reads I d.py x v (nx.dp sb c.1) rx
    have hy : Dp X.K H y (.list (D.pyL ds)) := by
      obtain ⟨l, xs, rfl, hx, r1⟩ := ny.lst sb
      exact .lst (.inl (.inl hx)) (r1.dp sb c.2)
    obtain ⟨bs, rb⟩ := Dp.reads I _ y u hy ry
    have fin : EP X pins σ Q (.bool (neg != d.mem ds)) s := ⟨.bl _, H, I, rfl, pw.scal sb (.bl _)⟩
    cases neg with
    | false => exact SeqAt.in_list_reads rb ra (D.okL_lay ds 60 c.2).1 (D.ok_lay d 60 c.1).1 hr (by rw [any_py]; simpa using fin)
    | true => exact SeqAt.notIn_list_reads rb ra (D.okL_lay ds 60 c.2).1 (D.ok_lay d 60 c.1).1 hr (by rw [any_py]; simpa using fin)
  | tup ds =>
    obtain ⟨c, rfl⟩ := ite_some hg
    have hr := room c
    rw [Bool.and_eq_true] at c
    obtain ⟨as, ra⟩ := Dp.reads I d.py x v (nx.dp sb c.1) rx
    have hy : Dp X.K H y (.tuple (D.pyL ds)) := by
      obtain ⟨l, xs, rfl, hx, r1⟩ := ny.tup sb
      exact .tup (.of hx) (r1.dp sb c.2)
    obtain ⟨bs, rb⟩ := Dp.reads I _ y u hy ry
    have fin : EP X pins σ Q (.bool (neg != d.mem ds)) s := ⟨.bl _, H, I, rfl, pw.scal sb (.bl _)⟩
    cases neg with
    | false => exact SeqAt.in_tuple_reads rb ra (D.okL_lay ds 60 c.2).1 (D.ok_lay d 60 c.1).1 hr (by rw [any_py]; simpa using fin)
    | true => exact SeqAt.notIn_tuple_reads rb ra (D.okL_lay ds 60 c.2).1 (D.ok_lay d 60 c.1).1 hr (by rw [any_py]; simpa using fin)
  | str b =>
    cases d <;> first | (cases hg; done) | skip
    rename_i a
    cases hg
    cases neg with
    | false => exact op_in_str pins s σ H x y v u Q I rx ry ⟨_, _, nx.str, ny.str, by simpa [occ] using pw.scal sb (.bl _)⟩
    | true => exact L2.op_notIn_str pins s σ H x y v u Q I rx ry ⟨_, _, nx.str, ny.str, by simpa [occ] using pw.scal sb (.bl _)⟩
  | _ => cases hg
theorem op_inU (hu : X.A.units + 65 < cLine) : OpR X (compareOp .In) (r2 X.K (gIn false)) := inU_core false hu
theorem op_notInU (hu : X.A.units + 65 < cLine) : OpR X (compareOp .NotIn) (r2 X.K (gIn true)) := inU_core true hu
/-- is None, is not None -/
def gIs (neg : Bool) (d e : D) : Option PR := match e with | .non => some (.d (.bl (neg != d.isNon))) | _ => none
theorem now_non {K : PySem.W.Frag} {F H : Hp} {v : V} {d : D} (h : Now K F H v d) : decide (v = .non) = d.isNon := by
  rcases h with h | ⟨a, u, o, rfl, hu, ho, rfl⟩
  · cases h <;> rfl
  · cases ho <;> rfl
theorem op_isU : OpR X (compareOp .Is) (r2 X.K (gIs false)) := by
  intro pins s σ H x y v u Q I rx ry ⟨F, d, e, r, sb, nx, ny, hg, pw⟩
  cases e <;> first | (cases hg; done) | skip
  cases hg
  exact op_isN pins s σ H x y v u Q I rx ry ⟨ny.non, by rw [now_non nx]; simpa using pw.scal sb (.bl _)⟩
theorem op_isNotU : OpR X (compareOp .IsNot) (r2 X.K (gIs true)) := by
  intro pins s σ H x y v u Q I rx ry ⟨F, d, e, r, sb, nx, ny, hg, pw⟩
  cases e <;> first | (cases hg; done) | skip
  cases hg
  exact op_notN pins s σ H x y v u Q I rx ry ⟨ny.non, by rw [now_non nx]; simpa using pw.scal sb (.bl _)⟩
end
end U
end

section
set_option Elab.async false
set_option linter.all false
set_option maxRecDepth 100000
namespace U
open PySem PySem.Spec PyProof.Rows L2

/-! ### x[i] -/
/-- the value at a key -/
def dLook : List D → List D → D → Option D
  | k :: ks, v :: vs, d => if k.eqb d then some v else dLook ks vs d
  | _, _, _ => none
theorem atI_rep {K : PySem.W.Frag} {F : Hp} {vs : List V} {ds : List D} (h : RepL K F vs ds) {i : Int} {d : D} (e : atI ds i = some d) : ∃ v, atI vs i = some v ∧ Rep K F v d := by
  unfold atI at e ⊢
  rw [h.length]
  cases q : ixN ds.length i with
  | none => rw [q] at e; cases e
  | some j =>
    rw [q] at e
    exact h.get (i := j) e
theorem key_eqb {d e : D} {k l : Key} (h : d.key = some k) (h' : e.key = some l) : d.eqb e = decide (k = l) := by
  cases d <;> first | (cases h; done) | skip <;> (cases e <;> first | (cases h'; done) | skip)
  · cases h; cases h'
    rename_i i j
    simp only [D.eqb]
    by_cases q : i = j
    · subst q; simp
    · rw [beq_eq_false_iff_ne.mpr q, decide_eq_false (fun z => q (Sum.inl.inj z))]
  · cases h; cases h'; simp [D.eqb]
  · cases h; cases h'; simp [D.eqb]
  · cases h; cases h'
    rename_i x y
    simp only [D.eqb]
    rw [← stO_beq]
    by_cases q : stO x = stO y
    · rw [q]; simp
    · rw [beq_eq_false_iff_ne.mpr q, decide_eq_false (fun z => q (Sum.inr.inj z))]
theorem keys_cons {d : D} {ds : List D} {l : List Key} (h : keysOf (d :: ds) = some l) : ∃ k r, d.key = some k ∧ keysOf ds = some r ∧ l = k :: r := by
  unfold keysOf at h
  cases e1 : d.key with
  | none => rw [e1] at h; cases h
  | some k =>
    cases e2 : keysOf ds with
    | none => rw [e1, e2] at h; cases h
    | some r => rw [e1, e2] at h; cases h; exact ⟨k, r, rfl, rfl, rfl⟩
theorem keysT_cons {d : D} {ds : List D} {l : List (List Key)} (h : keysTOf (d :: ds) = some l) : ∃ k r, d.keyT = some k ∧ keysTOf ds = some r ∧ l = k :: r := by
  unfold keysTOf at h
  cases e1 : d.keyT with
  | none => rw [e1] at h; cases h
  | some k =>
    cases e2 : keysTOf ds with
    | none => rw [e1, e2] at h; cases h
    | some r => rw [e1, e2] at h; cases h; exact ⟨k, r, rfl, rfl, rfl⟩
theorem keys_eqb : ∀ {xs ys : List D} {k l : List Key}, keysOf xs = some k → keysOf ys = some l → D.eqbL xs ys = decide (k = l)
  | [], [], _, _, h, h' => by cases h; cases h'; rfl
  | [], y :: ys, _, _, h, h' => by
    obtain ⟨k, r, _, _, rfl⟩ := keys_cons h'
    cases h; simp [D.eqbL]
  | x :: xs, [], _, _, h, h' => by
    obtain ⟨k, r, _, _, rfl⟩ := keys_cons h
    cases h'; simp [D.eqbL]
  | x :: xs, y :: ys, _, _, h, h' => by
    obtain ⟨k, r, a1, a2, rfl⟩ := keys_cons h
    obtain ⟨l, r', b1, b2, rfl⟩ := keys_cons h'
    simp only [D.eqbL, key_eqb a1 b1, keys_eqb a2 b2, List.cons.injEq, Bool.decide_and]
theorem keyT_eqb {d e : D} {k l : List Key} (h : d.keyT = some k) (h' : e.keyT = some l) : d.eqb e = decide (k = l) := by
  cases d <;> first | (cases h; done) | skip <;> (cases e <;> first | (cases h'; done) | skip)
  simp only [D.eqb]
  exact keys_eqb h h'
theorem key_rep {K : PySem.W.Frag} {F : Hp} {v : V} {d : D} {k : Key} (h : d.key = some k) (r : Rep K F v d) : v = kV k := by
  cases r <;> first | (cases h; done) | (cases h; rfl)
theorem keys_rep {K : PySem.W.Frag} {F : Hp} : ∀ {vs : List V} {ds : List D} {k : List Key}, keysOf ds = some k → RepL K F vs ds → vs = k.map kV
  | _, _, _, h, .nil => by cases h; rfl
  | _, _, _, h, .cons a r => by
    obtain ⟨k, l, h1, h2, rfl⟩ := keys_cons h
    rw [key_rep h1 a, keys_rep h2 r]; rfl
theorem look_val {K : PySem.W.Frag} {F : Hp} {κ : Type} [DecidableEq κ] (kf : D → Option κ) (hk : ∀ {d e : D} {k l : κ}, kf d = some k → kf e = some l → d.eqb e = decide (k = l)) {d : D} {k : κ} (hd : kf d = some k) :
    ∀ {kvs : List (κ × V)} {ks ds : List D}, (ks.map kf = kvs.map (fun p => some p.1)) → RepL K F (kvs.map (·.2)) ds → (dLook ks ds d = none ∧ valV kvs k = none) ∨ ∃ e v, dLook ks ds d = some e ∧ valV kvs k = some v ∧ Rep K F v e
  | [], ks, ds, e, r => by
    cases ks with
    | nil => exact .inl ⟨by cases ds <;> rfl, rfl⟩
    | cons a b => cases e
  | (k0, v0) :: kvs, ks, ds, e, r => by
    cases ks with
    | nil => cases e
    | cons a ks =>
      simp only [List.map_cons, List.cons.injEq] at e
      obtain ⟨e1, e2⟩ := e
      have r' : RepL K F (v0 :: kvs.map (·.2)) ds := r
      cases r' with
      | cons h0 r0 =>
        have q := hk e1 hd
        by_cases c : k0 = k
        · rw [decide_eq_true c] at q
          refine .inr ⟨_, v0, ?_, ?_, h0⟩
          · simp only [dLook, q, if_true]
          · simp [valV, c]
        · rw [decide_eq_false c] at q
          have ih := look_val kf hk hd e2 r0
          have e3 : valV ((k0, v0) :: kvs) k = valV kvs k := by simp [valV, c]
          rw [e3]
          simp only [dLook, q, Bool.false_eq_true, if_false]
          exact ih
theorem keysOf_map : ∀ {ks : List D} {l : List Key}, keysOf ks = some l → ks.map D.key = l.map some
  | [], _, h => by cases h; rfl
  | d :: ds, _, h => by
    obtain ⟨k, r, h1, h2, rfl⟩ := keys_cons h
    simp only [List.map_cons, h1, keysOf_map h2]
theorem keysTOf_map : ∀ {ks : List D} {l : List (List Key)}, keysTOf ks = some l → ks.map D.keyT = l.map some
  | [], _, h => by cases h; rfl
  | d :: ds, _, h => by
    obtain ⟨k, r, h1, h2, rfl⟩ := keysT_cons h
    simp only [List.map_cons, h1, keysTOf_map h2]
/-- a dict that is read: frozen, or an owned one as it stands -/
theorem Now.dK {K : PySem.W.Frag} {F H : Hp} {v : V} {ks ds : List D} (h : Now K F H v (.dct false ks ds)) (s : Sub F H) :
    ∃ a kvs, v = .ref a ∧ Rd H a (.dK kvs) ∧ keysOf ks = some (kvs.map (·.1)) ∧ RepL K F (kvs.map (·.2)) ds := by
  rcases h with h | ⟨a, u, o, rfl, hu, ho, e⟩
  · cases h with
    | dK q k r => exact ⟨_, _, rfl, .inr ⟨_, s _ _ q⟩, k, r⟩
  · cases ho with
    | l _ => cases e
    | dK k r => cases e; exact ⟨a, _, rfl, .inl hu, k, r⟩
    | dT k r => cases e
theorem Now.dT {K : PySem.W.Frag} {F H : Hp} {v : V} {ks ds : List D} (h : Now K F H v (.dct true ks ds)) (s : Sub F H) :
    ∃ a kvs, v = .ref a ∧ Rd H a (.dT kvs) ∧ keysTOf ks = some (kvs.map (·.1)) ∧ RepL K F (kvs.map (·.2)) ds := by
  rcases h with h | ⟨a, u, o, rfl, hu, ho, e⟩
  · cases h with
    | dT q k r => exact ⟨_, _, rfl, .inr ⟨_, s _ _ q⟩, k, r⟩
  · cases ho with
    | l _ => cases e
    | dK k r => cases e
    | dT k r => cases e; exact ⟨a, _, rfl, .inl hu, k, r⟩
/-- is d a key of such a dict -/
def D.keyOk (t : Bool) (d : D) : Bool := if t then d.keyT.isSome else d.key.isSome
theorem Now.key {K : PySem.W.Frag} {F H : Hp} {v : V} {d : D} {k : Key} (h : Now K F H v d) (e : d.key = some k) : v = kV k := by
  rcases h with h | ⟨a, u, o, rfl, hu, ho, rfl⟩
  · exact key_rep e h
  · cases ho <;> cases e
theorem Now.keyT {K : PySem.W.Frag} {F H : Hp} {v : V} {d : D} {k : List Key} (s : Sub F H) (h : Now K F H v d) (e : d.keyT = some k) : ∃ b, v = .ref b ∧ H b = some (.tup (k.map kV)) := by
  cases d <;> first | (cases e; done) | skip
  obtain ⟨b, vs, rfl, hb, r⟩ := h.tup s
  rw [keys_rep e r] at hb
  exact ⟨b, rfl, hb⟩
/-- the look-up, at the heap -/
theorem dget_of {K : PySem.W.Frag} {F H : Hp} {x y : V} {t : Bool} {ks ds : List D} {d : D} (s : Sub F H) (nx : Now K F H x (.dct t ks ds)) (ny : Now K F H y d) (hk : d.keyOk t = true) :
    ∃ a, x = .ref a ∧ ((dLook ks ds d = none ∧ DGet H a y none) ∨ ∃ e v, dLook ks ds d = some e ∧ DGet H a y (some v) ∧ Rep K F v e) := by
  cases t with
  | false =>
    obtain ⟨a, kvs, rfl, hr, hks, r⟩ := nx.dK s
    have hk : d.key.isSome = true := hk
    obtain ⟨k, e⟩ := Option.isSome_iff_exists.mp hk
    refine ⟨a, rfl, ?_⟩
    have hm := keysOf_map hks
    rw [List.map_map] at hm
    rcases look_val D.key key_eqb e hm r with ⟨h1, h2⟩ | ⟨z, v, h1, h2, h3⟩
    · exact .inl ⟨h1, .inl ⟨kvs, k, hr, ny.key e, h2.symm⟩⟩
    · exact .inr ⟨z, v, h1, .inl ⟨kvs, k, hr, ny.key e, h2.symm⟩, h3⟩
  | true =>
    obtain ⟨a, kvs, rfl, hr, hks, r⟩ := nx.dT s
    have hk : d.keyT.isSome = true := hk
    obtain ⟨k, e⟩ := Option.isSome_iff_exists.mp hk
    obtain ⟨b, hy, hb⟩ := ny.keyT s e
    refine ⟨a, rfl, ?_⟩
    have hm := keysTOf_map hks
    rw [List.map_map] at hm
    rcases look_val D.keyT keyT_eqb e hm r with ⟨h1, h2⟩ | ⟨z, v, h1, h2, h3⟩
    · exact .inl ⟨h1, .inr ⟨kvs, k, b, hr, hy, hb, h2.symm⟩⟩
    · exact .inr ⟨z, v, h1, .inr ⟨kvs, k, b, hr, hy, hb, h2.symm⟩, h3⟩
def gIx (d e : D) : Option PR := match d with
  | .lst ds => match e with | .int i => (atI ds i).map .d | _ => none
  | .tup ds => match e with | .int i => (atI ds i).map .d | _ => none
  | .ptp ds => match e with | .int i => (atI ds i).map .d | _ => none
  | .str x => match e with | .int i => if x.length ≤ lim then (atI x i).map fun c => .d (.str [c]) else none | _ => none
  | .scr ns => match e with | .int i => (atI ns i).map fun n => .d (.int n) | _ => none
  | .dct t ks vs => if e.keyOk t then (dLook ks vs e).map .d else none
  | _ => none
theorem map_some {α β : Type} {f : α → β} {o : Option α} {b : β} (h : o.map f = some b) : ∃ a, o = some a ∧ f a = b := by
  cases o with
  | none => cases h
  | some a => exact ⟨a, rfl, Option.some.inj h⟩
theorem atI_map {α β : Type} (f : α → β) (xs : List α) (i : Int) : atI (xs.map f) i = (atI xs i).map f := by
  unfold atI
  rw [List.length_map]
  cases ixN xs.length i with
  | none => rfl
  | some j => simp
section
variable {X : Cx}
theorem ix_U (hu : X.A.units + 1 < cLine) : IxR X (r2 X.K gIx) := by
  intro value slice pins s σ H x y v u Q I rx ry ⟨F, d, e, r, sb, nx, ny, hg, pw⟩ hs
  cases d with
  | lst ds =>
    cases e <;> first | (cases hg; done) | skip
    obtain ⟨z, e1, rfl⟩ := map_some hg
    obtain ⟨a, vs, rfl, ha, r1⟩ := nx.lst sb
    obtain ⟨w, e2, rw'⟩ := atI_rep r1 e1
    exact ix_list value slice pins s σ H _ y v u Q I rx ry ⟨a, vs, _, w, rfl, ny.int, .of ha, e2, pw.scal sb rw'⟩ hs
  | tup ds =>
    cases e <;> first | (cases hg; done) | skip
    obtain ⟨z, e1, rfl⟩ := map_some hg
    obtain ⟨a, vs, rfl, ha, r1⟩ := nx.tup sb
    obtain ⟨w, e2, rw'⟩ := atI_rep r1 e1
    exact ix_tup value slice pins s σ H _ y v u Q I rx ry ⟨a, vs, _, w, rfl, ny.int, .of ha, e2, pw.scal sb rw'⟩ hs
  | ptp ds =>
    cases e <;> first | (cases hg; done) | skip
    obtain ⟨z, e1, rfl⟩ := map_some hg
    obtain ⟨a, o, vs, rfl, ha, _, r1, _⟩ := nx.ptp sb
    obtain ⟨w, e2, rw'⟩ := atI_rep r1 e1
    exact ix_tup value slice pins s σ H _ y v u Q I rx ry ⟨a, vs, _, w, rfl, ny.int, .inl (.inr ⟨o, ha⟩), e2, pw.scal sb rw'⟩ hs
  | str a =>
    cases e <;> first | (cases hg; done) | skip
    rename_i i
    by_cases c : a.length ≤ lim
    · have hg : (if a.length ≤ lim then (atI a i).map (fun c => PR.d (.str [c])) else none) = some r := hg
      rw [if_pos c] at hg
      obtain ⟨z, e1, rfl⟩ := map_some hg
      exact ix_str value slice pins s σ H x y v u Q I rx ry ⟨stO a, i, z, nx.str, ny.int, by rw [stO_length]; exact lim_ok c, by simpa using e1, pw.scal sb (.str [z])⟩ hs
    · have hg : (if a.length ≤ lim then (atI a i).map (fun c => PR.d (.str [c])) else none) = some r := hg
      rw [if_neg c] at hg; cases hg
  | scr ns =>
    cases e <;> first | (cases hg; done) | skip
    obtain ⟨z, e1, rfl⟩ := map_some hg
    rcases nx with h | ⟨a, w, o, rfl, hw, ho, ee⟩
    · cases h with
      | scr q => exact ix_list value slice pins s σ H _ y v u Q I rx ry ⟨_, _, _, .int z, rfl, ny.int, sb.sqL q, by rw [atI_map, e1]; rfl, pw.scal sb (.int z)⟩ hs
    · cases ho <;> cases ee
  | dct t ks vs =>
    have hg : (if e.keyOk t = true then (dLook ks vs e).map PR.d else none) = some r := hg
    by_cases c : e.keyOk t = true
    · rw [if_pos c] at hg
      obtain ⟨z, e1, rfl⟩ := map_some hg
      obtain ⟨a, rfl, h | ⟨z', w, h1, h2, h3⟩⟩ := dget_of sb nx ny c
      · rw [h.1] at e1; cases e1
      · rw [h1] at e1; cases e1
        cases rx
        exact tail_any (ops := [.ref a, u]) (dict_typeIs I h2) PySem.F.slot_dict_getitem.lookup (d_getItem hu I h2 ry fun w' s3 I3 rw' => ⟨w, H, I3, rw', pw.scal sb h3⟩) hs
    · rw [if_neg c] at hg; cases hg
  | _ => cases hg
end
end U
end

section
set_option Elab.async false
set_option linter.all false
set_option maxRecDepth 100000
namespace U
open PySem PySem.Spec PyProof.Rows L2

/-! ### x[lo:hi] -/
def cutA {α : Type} (xs : List α) (lo hi : Option Int) : List α := (xs.drop (HT.sIx xs.length 0 lo)).take (HT.sIx xs.length xs.length hi - HT.sIx xs.length 0 lo)
theorem cutA_rep {K : PySem.W.Frag} {F : Hp} {vs : List V} {ds : List D} (h : RepL K F vs ds) (lo hi : Option Int) : RepL K F (cutV vs lo hi) (cutA ds lo hi) := by
  unfold cutV cutA
  rw [h.length]
  exact (h.drop _).take _
theorem cutA_map {α β : Type} (f : α → β) (xs : List α) (lo hi : Option Int) : cutA (xs.map f) lo hi = (cutA xs lo hi).map f := by
  unfold cutA; simp [List.map_take, List.map_drop]
theorem cutA_whole {α : Type} {xs : List α} {lo hi : Option Int} (h : HT.sIx xs.length 0 lo = 0 ∧ HT.sIx xs.length xs.length hi = xs.length) : cutA xs lo hi = xs := by
  unfold cutA; rw [h.1, h.2]; simp
def gSl (lo hi : Option Int) (d : D) : Option PR := match d with
  | .lst ds => some (.o (.l (cutA ds lo hi)))
  | .tup ds => some (.d (.tup (cutA ds lo hi)))
  | .str x => if x.length ≤ lim then some (.d (.str (cutA x lo hi))) else none
  | .scr ns => some (.o (.l ((cutA ns lo hi).map .int)))
  | _ => none
def rSl (K : PySem.W.Frag) : V → Option Int → Option Int → Hp → VK → Prop := fun x lo hi H Q => ∃ F d r, Sub F H ∧ Now K F H x d ∧ gSl lo hi d = some r ∧ PW K F H r Q
section
variable {X : Cx}
theorem sl_U : SlR X (rSl X.K) := by
  intro pins s σ H x v vl vu lo hi sl Q I rx hs pl pu ⟨F, d, r, sb, nx, hg, pw⟩
  cases d with
  | lst ds =>
    cases hg
    obtain ⟨a, vs, rfl, ha, r1⟩ := nx.lst sb
    exact sl_list pins s σ H _ v vl vu lo hi sl Q I rx hs pl pu ⟨a, vs, rfl, .of ha, pw.lst sb (cutA_rep r1 lo hi)⟩
  | tup ds =>
    cases hg
    obtain ⟨a, vs, rfl, ha, r1⟩ := nx.tup sb
    refine sl_tupA pins s σ H _ v vl vu lo hi sl Q I rx hs pl pu ⟨a, vs, rfl, .of ha, fun w => ?_, fun _ => pw.tup sb (cutA_rep r1 lo hi)⟩
    rw [r1.length] at w
    refine pw.scal sb ?_
    rw [cutA_whole w]
    exact nx.tupR
  | str a =>
    obtain ⟨c, rfl⟩ := ite_some hg
    refine sl_str pins s σ H x v vl vu lo hi sl Q I rx hs pl pu ⟨stO a, nx.str, by rw [stO_length]; exact lim_ok c, ?_⟩
    have e : cutS (stO a) lo hi = stO (cutA a lo hi) := by
      unfold cutS cutA
      rw [stO_length]
    rw [e]
    exact pw.scal sb (.str _)
  | scr ns =>
    cases hg
    rcases nx with h | ⟨a, w, o, rfl, hw, ho, ee⟩
    · cases h with
      | scr q =>
        refine sl_list pins s σ H _ v vl vu lo hi sl Q I rx hs pl pu ⟨_, _, rfl, sb.sqL q, ?_⟩
        refine pw.lst sb ?_
        have e : cutV (ns.map V.int) lo hi = (cutA ns lo hi).map V.int := cutA_map V.int ns lo hi
        rw [e]
        exact RepL.of_ints _
    · cases ho <;> cases ee
  | _ => cases hg
end

/-! ### truth -/
def D.truth : D → Option Bool
  | .non => some false
  | .bl b => some b
  | .int i => some (i != 0)
  | .str x => if x.length ≤ lim then some (!x.isEmpty) else none
  | .tup xs => some (!xs.isEmpty)
  | .lst xs => some (!xs.isEmpty)
  | _ => none
theorem isEmpty_rep {K : PySem.W.Frag} {F : Hp} {vs : List V} {ds : List D} (r : RepL K F vs ds) : vs.isEmpty = ds.isEmpty := by cases r <;> rfl
theorem truth_of {K : PySem.W.Frag} {F H : Hp} {v : V} {d : D} {b : Bool} (s : Sub F H) (n : Now K F H v d) (h : d.truth = some b) : TruV K v H b := by
  cases d with
  | non => cases h; rw [n.non]; rfl
  | bl c => cases h; rw [n.bl]; rfl
  | int i => cases h; rw [n.int]; rfl
  | str x =>
    obtain ⟨c, rfl⟩ := ite_some h
    rw [n.str]
    refine ⟨by rw [stO_length]; exact lim_ok c, ?_⟩
    rw [stO_length]
    cases x with
    | nil => rfl
    | cons a r =>
      have : ((((a :: r).length : Nat) : Int) != 0) = true := by simp; omega
      rw [this]; rfl
  | tup xs =>
    cases h
    obtain ⟨a, vs, rfl, ha, r⟩ := n.tup s
    exact .inr (.inl ⟨vs, .of ha, by rw [isEmpty_rep r]⟩)
  | lst xs =>
    cases h
    obtain ⟨a, vs, rfl, ha, r⟩ := n.lst s
    exact .inl ⟨vs, .of ha, by rw [isEmpty_rep r]⟩
  | _ => cases h

/-! ### calls -/
theorem NowL.one {K : PySem.W.Frag} {F H : Hp} {xs : List V} {d : D} (h : NowL K F H xs [d]) : ∃ x, xs = [x] ∧ Now K F H x d := by
  cases h with
  | cons a r => cases r; exact ⟨_, rfl, a⟩
theorem NowL.two {K : PySem.W.Frag} {F H : Hp} {xs : List V} {d e : D} (h : NowL K F H xs [d, e]) : ∃ x y, xs = [x, y] ∧ Now K F H x d ∧ Now K F H y e := by
  cases h with
  | cons a r => cases r with
    | cons b r => cases r; exact ⟨_, _, rfl, a, b⟩
def g1 (g : D → Option PR) : List D → Option PR
  | [d] => g d
  | _ => none
theorem g1_some {g : D → Option PR} {ds : List D} {r : PR} (h : g1 g ds = some r) : ∃ d, ds = [d] ∧ g d = some r := by
  cases ds with
  | nil => cases h
  | cons d t => cases t with
    | nil => exact ⟨d, rfl, h⟩
    | cons => cases h
def gLen : D → Option PR
  | .lst ds => some (.d (.int ds.length))
  | .ptp ds => some (.d (.int ds.length))
  | .tup ds => some (.d (.int ds.length))
  | .scr ns => some (.d (.int ns.length))
  | .str x => if x.length ≤ lim then some (.d (.int x.length)) else none
  | _ => none
def gTuple : D → Option PR
  | .ptp ds => some (.d (.ptp ds))
  | .lst ds => some (.d (.tup ds))
  | .tup ds => some (.d (.tup ds))
  | .str x => if x.length ≤ lim then some (.d (.tup (x.map fun c => .str [c]))) else none
  | _ => none
def gList : D → Option PR
  | .lst ds => some (.o (.l ds))
  | .tup ds => some (.o (.l ds))
  | _ => none
def gAbs : D → Option PR
  | .int i => some (.d (.int (if i < 0 then -i else i)))
  | _ => none
def gIntC : D → Option PR
  | .int i => some (.d (.int i))
  | .bl b => some (.d (.int (if b then 1 else 0)))
  | _ => none
def blsOf : List D → Option (List Bool)
  | [] => some []
  | .bl b :: r => (blsOf r).map (b :: ·)
  | _ => none
def intsOf : List D → Option (List Int)
  | [] => some []
  | .int b :: r => (intsOf r).map (b :: ·)
  | _ => none
theorem bls_rep {K : PySem.W.Frag} {F : Hp} : ∀ {vs : List V} {ds : List D} {bs : List Bool}, RepL K F vs ds → blsOf ds = some bs → vs = bs.map V.bl
  | _, _, _, .nil, e => by cases e; rfl
  | _, _, _, .cons h r, e => by
    cases h <;> first | (cases e; done) | skip
    obtain ⟨t, e1, rfl⟩ := map_some e
    rw [bls_rep r e1]; rfl
theorem ints_rep {K : PySem.W.Frag} {F : Hp} : ∀ {vs : List V} {ds : List D} {bs : List Int}, RepL K F vs ds → U.intsOf ds = some bs → vs = bs.map V.int
  | _, _, _, .nil, e => by cases e; rfl
  | _, _, _, .cons h r, e => by
    cases h <;> first | (cases e; done) | skip
    obtain ⟨t, e1, rfl⟩ := map_some e
    rw [ints_rep r e1]; rfl
def gAny : D → Option PR
  | .lst ds => (blsOf ds).map fun bs => .d (.bl (bs.any id))
  | _ => none
def gAll : D → Option PR
  | .lst ds => (blsOf ds).map fun bs => .d (.bl (bs.all id))
  | _ => none
def gSum : D → Option PR
  | .lst ds => (U.intsOf ds).map fun bs => .d (.int bs.sum)
  | _ => none
section
variable {X : Cx}
theorem cr_lenU : CallR X (.builtin "len") (rC X.K (g1 gLen)) := by
  intro pins s σ H xs us Q I rs ⟨F, ds, r, sb, n, hg, pw⟩
  obtain ⟨d, rfl, hg⟩ := g1_some hg
  obtain ⟨x, rfl, n1⟩ := n.one
  cases d with
  | lst ds =>
    cases hg
    obtain ⟨a, vs, rfl, ha, r1⟩ := n1.lst sb
    exact call_len_seq pins s σ H _ us Q I rs ⟨a, vs, rfl, .inl (.of ha), by rw [r1.length]; exact pw.scal sb (.int _)⟩
  | tup ds =>
    cases hg
    obtain ⟨a, vs, rfl, ha, r1⟩ := n1.tup sb
    exact call_len_seq pins s σ H _ us Q I rs ⟨a, vs, rfl, .inr (.of ha), by rw [r1.length]; exact pw.scal sb (.int _)⟩
  | ptp ds =>
    cases hg
    obtain ⟨a, o, vs, rfl, ha, _, r1, _⟩ := n1.ptp sb
    exact call_len_seq pins s σ H _ us Q I rs ⟨a, vs, rfl, .inr (.inl (.inr ⟨o, ha⟩)), by rw [r1.length]; exact pw.scal sb (.int _)⟩
  | scr ns =>
    cases hg
    rcases n1 with h | ⟨a, w, o, rfl, hw, ho, ee⟩
    · cases h with
      | scr q => exact call_len_seq pins s σ H _ us Q I rs ⟨_, _, rfl, .inl (sb.sqL q), by rw [List.length_map]; exact pw.scal sb (.int _)⟩
    · cases ho <;> cases ee
  | str x =>
    obtain ⟨c, rfl⟩ := ite_some hg
    have e := n1.str
    subst e
    exact call_len_str pins s σ H _ us Q I rs ⟨stO x, rfl, by rw [stO_length]; exact lim_ok c, by rw [stO_length]; exact pw.scal sb (.int _)⟩
  | _ => cases hg
theorem cr_listU : CallR X (.type "list") (rC X.K (g1 gList)) := by
  intro pins s σ H xs us Q I rs ⟨F, ds, r, sb, n, hg, pw⟩
  obtain ⟨d, rfl, hg⟩ := g1_some hg
  obtain ⟨x, rfl, n1⟩ := n.one
  cases d with
  | lst ds =>
    cases hg
    obtain ⟨a, vs, rfl, ha, r1⟩ := n1.lst sb
    exact call_list_of pins s σ H _ us Q I rs ⟨a, vs, rfl, .inl (.of ha), pw.lst sb r1⟩
  | tup ds =>
    cases hg
    obtain ⟨a, vs, rfl, ha, r1⟩ := n1.tup sb
    exact call_list_of pins s σ H _ us Q I rs ⟨a, vs, rfl, .inr (.of ha), pw.lst sb r1⟩
  | _ => cases hg
theorem vals_at : ∀ {xs : List V} {us : List Value}, xs.length = us.length → (∀ (i : Nat) (x : V) (u : Value), xs[i]? = some x → us[i]? = some u → RelV x u) → Vals xs us
  | [], [], _, _ => .nil
  | [], _ :: _, h, _ => by simp at h
  | _ :: _, [], h, _ => by simp at h
  | x :: xs, u :: us, h, f => .cons (f 0 x u rfl rfl) (vals_at (by simpa using h) fun i y w e1 e2 => f (i + 1) y w (by simpa using e1) (by simpa using e2))
theorem signs_rep {K : PySem.W.Frag} {F : Hp} : ∀ x : List Nat, RepL K F (x.map fun c => V.str (stO [c])) (x.map fun c => D.str [c])
  | [] => .nil
  | c :: x => .cons (.str [c]) (signs_rep x)
theorem cr_tupleU (hc : X.calm = true) : CallR X (.type "tuple") (rC X.K (g1 gTuple)) := by
  intro pins s σ H xs us Q I rs ⟨F, ds, r, sb, n, hg, pw⟩
  obtain ⟨d, rfl, hg⟩ := g1_some hg
  obtain ⟨x, rfl, n1⟩ := n.one
  cases d with
  | lst ds =>
    cases hg
    obtain ⟨a, vs, rfl, ha, r1⟩ := n1.lst sb
    exact call_tuple_of pins s σ H _ us Q I rs ⟨a, vs, rfl, .inl ⟨.of ha, pw.tup sb r1⟩⟩
  | tup ds =>
    cases hg
    obtain ⟨a, vs, rfl, ha, r1⟩ := n1.tup sb
    exact call_tuple_of pins s σ H _ us Q I rs ⟨a, vs, rfl, .inr ⟨.of ha, pw.scal sb n1.tupR⟩⟩
  | ptp ds =>
    cases hg
    obtain ⟨a, o, vs, rfl, ha, _, r1, rr⟩ := n1.ptp sb
    exact call_tuple_of pins s σ H _ us Q I rs ⟨a, vs, rfl, .inr ⟨.inl (.inr ⟨o, ha⟩), pw.scal sb rr⟩⟩
  | str x =>
    obtain ⟨c, rfl⟩ := ite_some hg
    have e := n1.str
    subst e
    obtain ⟨u, rfl, t, rfl⟩ := vals1 rs
    have hl : (stO x).cps.size ≤ sizeLine := by
      show x.toArray.size ≤ _
      rw [List.size_toArray]; exact lim_ok c
    refine call_tuple_str (I.ok.hd hc) (stO x) t (fun h' tk acc kp ac => ?_) hl
    have hv : Vals (x.map fun c => V.str (stO [c])) acc.toList := by
      refine vals_at ?_ fun i w u e1 e2 => ?_
      · have e := ac.1
        have e' : acc.size = x.length := by rw [e]; show x.toArray.size = _; simp
        rw [List.length_map, ← e', ← Array.length_toList]
      · obtain ⟨c, u', h1, h2⟩ := ac.2 i u (by simpa using e2)
        rw [List.getElem?_map] at e1
        obtain ⟨c', e3, rfl⟩ := map_some e1
        have h1' : x[i]? = some c := by simpa using h1
        rw [h1'] at e3
        cases e3
        exact ⟨u', h2⟩
    have I1 : Inv X pins σ H { s with heap := h' } := I.kept (t' := s.toks) kp
    have I2 : Inv X pins σ (upd H h'.objs.size (.tup (x.map fun c => V.str (stO [c])))) { s with heap := h'.push { cls := .type "tuple", data := .seq acc }, toks := tk } :=
      I1.laid (t' := tk) (fun b o e => Heap.get?_push_of_some _ e) (Nat.le_refl _) (show ObjOk X.prog X.w _ _ _ (.tup _) from ⟨by rw [List.length_map]; exact lim_ok c, acc.toList, hv, by simpa using IsTup.new _ _⟩)
    exact ⟨.ref h'.objs.size, _, I2, rfl, pw.tup sb (signs_rep x) _ (I1.hok.fresh (Nat.le_refl _))⟩
  | _ => cases hg
theorem cr_absU : CallR X (.builtin "abs") (rC X.K (g1 gAbs)) := by
  intro pins s σ H xs us Q I rs ⟨F, ds, r, sb, n, hg, pw⟩
  obtain ⟨d, rfl, hg⟩ := g1_some hg
  obtain ⟨x, rfl, n1⟩ := n.one
  cases d <;> first | (cases hg; done) | skip
  cases hg
  have e := n1.int
  subst e
  exact call_abs pins s σ H _ us Q I rs ⟨_, rfl, pw.scal sb (.int _)⟩
theorem cr_intU : CallR X (.type "int") (rC X.K (g1 gIntC)) := by
  intro pins s σ H xs us Q I rs ⟨F, ds, r, sb, n, hg, pw⟩
  obtain ⟨d, rfl, hg⟩ := g1_some hg
  obtain ⟨x, rfl, n1⟩ := n.one
  cases d <;> first | (cases hg; done) | skip
  · cases hg
    have e := n1.bl
    subst e
    exact call_int1 pins s σ H _ us Q I rs (.inr ⟨_, rfl, pw.scal sb (.int _)⟩)
  · cases hg
    have e := n1.int
    subst e
    exact call_int1 pins s σ H _ us Q I rs (.inl ⟨_, rfl, pw.scal sb (.int _)⟩)
theorem cr_anyU (hc : X.calm = true) : CallR X (.builtin "any") (rC X.K (g1 gAny)) := by
  intro pins s σ H xs us Q I rs ⟨F, ds, r, sb, n, hg, pw⟩
  obtain ⟨d, rfl, hg⟩ := g1_some hg
  obtain ⟨x, rfl, n1⟩ := n.one
  cases d <;> first | (cases hg; done) | skip
  obtain ⟨bs, e1, rfl⟩ := map_some hg
  obtain ⟨a, vs, rfl, ha, r1⟩ := n1.lst sb
  rw [bls_rep r1 e1] at ha
  exact cr_any hc pins s σ H _ us Q I rs ⟨a, bs, rfl, .of ha, pw.scal sb (.bl _)⟩
theorem cr_allU (hc : X.calm = true) : CallR X (.builtin "all") (rC X.K (g1 gAll)) := by
  intro pins s σ H xs us Q I rs ⟨F, ds, r, sb, n, hg, pw⟩
  obtain ⟨d, rfl, hg⟩ := g1_some hg
  obtain ⟨x, rfl, n1⟩ := n.one
  cases d <;> first | (cases hg; done) | skip
  obtain ⟨bs, e1, rfl⟩ := map_some hg
  obtain ⟨a, vs, rfl, ha, r1⟩ := n1.lst sb
  rw [bls_rep r1 e1] at ha
  exact cr_all hc pins s σ H _ us Q I rs ⟨a, bs, rfl, .of ha, pw.scal sb (.bl _)⟩
theorem cr_sumU (hc : X.calm = true) : CallR X (.builtin "sum") (rC X.K (g1 gSum)) := by
  intro pins s σ H xs us Q I rs ⟨F, ds, r, sb, n, hg, pw⟩
  obtain ⟨d, rfl, hg⟩ := g1_some hg
  obtain ⟨x, rfl, n1⟩ := n.one
  cases d <;> first | (cases hg; done) | skip
  obtain ⟨bs, e1, rfl⟩ := map_some hg
  obtain ⟨a, vs, rfl, ha, r1⟩ := n1.lst sb
  rw [ints_rep r1 e1] at ha
  exact cr_sum hc pins s σ H _ us Q I rs ⟨a, bs, rfl, .of ha, pw.scal sb (.int _)⟩
end
end U
end

section
set_option Elab.async false
set_option linter.all false
set_option maxRecDepth 100000
namespace U
open PySem PySem.Spec PyProof.Rows L2

/-! ### the reading of an expression -/
def RX (K : PySem.W.Frag) (M : MS) (σ : St) (Q : VK) (r : PR) (τ' : T) (F' H' : Hp) : Prop := match r with
  | .d z => ∀ v, Rep K F' v z → Q v H'
  | .o z => ∀ v, OwnR K M F' H' σ τ' v z → Q v H'
def rdX (K : PySem.W.Frag) (px : PX) (W : WX) (f : T → Rs PR) : TE := fun σ H Q => ∃ M F τ, SRel K M F H σ τ ∧ Post K px W M F H σ (f τ) (RX K M σ Q)
def JX (px : PX) (W : WX) (X : Cx) (e : Expr) (f : T → Rs PR) : Prop := PE X e (rdX X.K px W f)
/-- the value, frozen -/
def frz (f : T → Rs PR) : T → Rs D := fun τ => (f τ).bind fun r τ' => .ok r.toD τ'
section
variable {K : PySem.W.Frag} {px : PX} {W : WX} {M : MS} {F H F1 H1 : Hp} {σ : St} {τ : T}
/-- a primitive's wish, from what is wanted behind it -/
theorem Post.pw {r : PR} {Q : VK} (s : SRel K M F H σ τ) (p : Post K px W M F H σ (.ok r τ) (RX K M σ Q)) : PW K F H r Q := by
  cases r with
  | d z => exact fun v F' H' n rep => p F' H' n.grow (n.srel s) v rep
  | o z => exact fun a u F' H' n hp ho => p F' (upd H' a u) (n.grow.trans (grow_alloc hp)) ((n.srel s).alloc hp) _ ((n.srel s).fresh_own hp ho)
theorem Post.pw' {m : Rs PR} {r : PR} {Q : VK} (s : SRel K M F H σ τ) (p : Post K px W M F H σ m (RX K M σ Q)) (e : m = .ok r τ) : PW K F H r Q := by
  subst e; exact p.pw s
/-- an owned object is sealed -/
theorem sealing {a : Addr} {u o : HO} (s : SRel K M F H σ τ) (hu : H a = some u) (hf : F a = none) (hm : M.m a) (hx : ∀ (i : Nat) (sl : Sl), τ[i]? = some sl → sl.mut ≠ none → σ[i]? ≠ some (some (V.ref a))) :
    Grow M F H (upd F a o) (upd H a o) ∧ SRel K M (upd F a o) (upd H a o) σ τ := by
  refine ⟨⟨fun b e => ?_, Sub.upd hf, fun b w e m => ?_, fun b e n m => ?_⟩, s.len, fun b e => ?_, fun b w e => ?_, fun i d e => ?_, fun i sl ov e1 e2 => ?_, s.apart, s.io⟩
  · by_cases q : b = a
    · rw [q, upd_same] at e; cases e
    · rw [upd_ne q] at e; exact e
  · rw [upd_ne (fun q => m (by rw [q]; exact hm))]; exact e
  · rw [upd_ne (fun q => m (by rw [q]; exact hm))]; exact e
  · by_cases q : b = a
    · rw [q]; exact hm
    · rw [upd_ne q] at e; exact s.up b e
  · by_cases q : b = a
    · rw [q, upd_same] at e ⊢; exact e
    · rw [upd_ne q] at e ⊢; exact s.sub b w e
  · obtain ⟨v, e1, r⟩ := s.val i d e
    exact ⟨v, e1, r.mono (Sub.upd hf)⟩
  · obtain ⟨b, w, h1, h2, h3, h4, h5⟩ := s.own i sl ov e1 e2
    have ne : b ≠ a := fun q => hx i sl e1 (by rw [e2]; exact fun z => nomatch z) (q ▸ h1)
    exact ⟨b, w, h1, by rw [upd_ne ne]; exact h2, by rw [upd_ne ne]; exact h3, h4, h5.mono (Sub.upd hf)⟩
theorem upd_id {H : Hp} {a : Addr} {u : HO} (h : H a = some u) : upd H a u = H := by
  funext b
  by_cases q : b = a
  · rw [q, upd_same, h]
  · rw [upd_ne q]
end
/-- a value may be locked where it comes -/
def Lk (Q : VK) : VK := fun v H => Q v H ∨ ∃ a u, v = .ref a ∧ H a = some u ∧ Mut (some u) ∧ ∀ od, Q v (upd H a (.frz od u))
theorem pe_lock {X : Cx} {e : Expr} {t : TE} (h : PE X e t) : PE X e (fun σ H Q => t σ H (Lk Q)) := by
  refine ⟨fun pins s σ H Q I q => ?_⟩
  refine thn (h.run pins s σ H _ I q) fun v s1 ⟨x, H1, I1, r1, q1⟩ => ?_
  rcases q1 with q1 | ⟨a, u, rfl, ha, mu, q1⟩
  · exact ⟨x, H1, I1, r1, q1⟩
  · obtain ⟨od, I2⟩ := I1.lock ha mu
    exact ⟨_, _, I2, r1, q1 od⟩
section
variable {K : PySem.W.Frag} {px : PX} {W : WX} {M : MS} {F H F1 H1 : Hp} {σ : St} {τ : T}
theorem own_lk {Q : VK} {v : V} {o : OV} (s : SRel K M F H σ τ) (r : OwnR K M F H σ τ v o) (h : ∀ F' H', Grow M F H F' H' → SRel K M F' H' σ τ → Rep K F' v o.toD → Q v H') : Lk Q v H := by
  obtain ⟨a, u, rfl, hu, hf, hm, ho, hx⟩ := r
  cases ho with
  | @l ds vs rl =>
    left
    obtain ⟨g, s'⟩ := sealing (o := .lst vs) s hu hf hm hx
    rw [upd_id hu] at g s'
    exact h _ _ g s' (.lst upd_same (rl.mono (Sub.upd hf)))
  | @dK kvs ks ds k rl =>
    refine .inr ⟨a, _, rfl, hu, trivial, fun od => ?_⟩
    obtain ⟨g, s'⟩ := sealing (o := .frz od (.dK kvs)) s hu hf hm hx
    exact h _ _ g s' (.dK upd_same k (rl.mono (Sub.upd hf)))
  | @dT kvs ks ds k rl =>
    refine .inr ⟨a, _, rfl, hu, trivial, fun od => ?_⟩
    obtain ⟨g, s'⟩ := sealing (o := .frz od (.dT kvs)) s hu hf hm hx
    exact h _ _ g s' (.dT upd_same k (rl.mono (Sub.upd hf)))
end
theorem JX.frz {px : PX} {W : WX} {X : Cx} {e : Expr} {f : T → Rs PR} (h : JX px W X e f) : JE px W X e (frz f) := by
  refine PE.imp (pe_lock h) fun σ H Q ⟨M, F, τ, s, p⟩ => ⟨M, F, τ, s, p.bind.imp fun r τ1 F1 H1 g s1 q => ?_⟩
  cases r with
  | d z => exact fun v rv => .inl (q F1 H1 .refl s1 v rv)
  | o z => exact fun v rv => own_lk s1 rv fun F' H' g' s' rw' => q F' H' g' s' v rw'
/-- a frozen value as a value -/
theorem JE.x {px : PX} {W : WX} {X : Cx} {e : Expr} {f : T → Rs D} (h : JE px W X e f) : JX px W X e (fun τ => (f τ).bind fun z τ' => .ok (.d z) τ') :=
  PE.imp h fun σ H Q ⟨M, F, τ, s, p⟩ => ⟨M, F, τ, s, p.bind.imp fun r τ1 F1 H1 g s1 q v rv => q F1 H1 .refl s1 v rv⟩

/-! ### constants, names -/
section
variable {px : PX} {W : WX} {X : Cx} {pos : Pos} {k : Nat}
def sC (d : D) : T → Rs PR := fun τ => .ok (.d d) τ
theorem jx_of_tC {e : Expr} {v : V} {d : D} (h : PE X e (tC v)) (r : ∀ F, Rep X.K F v d) : JX px W X e (sC d) :=
  PE.imp h fun σ H Q ⟨M, F, τ, s, p⟩ => p F H .refl s v (r F)
theorem jx_int {i : Int} : JX px W X (.Constant (.int i) k pos) (sC (.int i)) := jx_of_tC pe_int fun _ => .int i
theorem jx_bl {b : Bool} : JX px W X (.Constant (.bool b) k pos) (sC (.bl b)) := jx_of_tC pe_bl fun _ => .bl b
theorem jx_non : JX px W X (.Constant .none k pos) (sC .non) := jx_of_tC pe_non fun _ => .non
theorem jx_str {x : List Nat} : JX px W X (.Constant (.str (stO x)) k pos) (sC (.str x)) := jx_of_tC pe_str fun _ => .str x
/-- a slot's name: an owned object is sealed by being read -/
def sVar (i : Nat) : T → Rs PR := fun τ => match τ[i]? with
  | some (.val d) => .ok (.d d) τ
  | some (.own o) => .ok (.d o.toD) (τ.set i (.val o.toD))
  | _ => .stuck
theorem SRel.sealed {K : PySem.W.Frag} {M : MS} {F' H' : Hp} {σ : St} {τ : T} {i : Nat} {o : OV} {a : Addr} {d : D} (s : SRel K M F' H' σ (τ.set i .no)) (hv : σ[i]? = some (some (V.ref a))) (r : Rep K F' (V.ref a) d) : SRel K M F' H' σ (τ.set i (.val d)) := by
  have ne : ∀ {j : Nat} {sl : Sl}, (τ.set i (.val d))[j]? = some sl → j ≠ i → (τ.set i .no)[j]? = some sl := fun {j sl} e n => by
    rw [List.getElem?_set_ne (Ne.symm n)] at e ⊢; exact e
  have at_ : ∀ {j : Nat} {sl : Sl}, (τ.set i (.val d))[j]? = some sl → j = i → sl = .val d := fun {j sl} e n => by
    subst n
    rw [List.getElem?_set] at e
    split at e
    · split at e
      · exact (Option.some.inj e).symm
      · cases e
    · rename_i h; exact absurd rfl h
  refine ⟨by simpa using s.len, s.up, s.sub, fun j d' e => ?_, fun j sl ov e1 e2 => ?_, fun j k sl tl b e1 m1 e2 m2 => ?_, fun j o' e => ?_⟩
  · by_cases n : j = i
    · have := at_ e n
      cases this
      exact ⟨_, n ▸ hv, r⟩
    · exact s.val j d' (ne e n)
  · by_cases n : j = i
    · have := at_ e1 n
      subst this
      cases e2
    · exact s.own j sl ov (ne e1 n) e2
  · have n1 : j ≠ i := fun n => by have := at_ e1 n; subst this; exact m1 rfl
    have n2 : k ≠ i := fun n => by have := at_ e2 n; subst this; exact m2 rfl
    exact s.apart j k sl tl b (ne e1 n1) m1 (ne e2 n2) m2
  · exact s.io j o' (ne e fun n => by have := at_ e n; cases this)
theorem SRel.drop {K : PySem.W.Frag} {M : MS} {F H : Hp} {σ : St} {τ : T} (s : SRel K M F H σ τ) (i : Nat) : SRel K M F H σ (τ.set i .no) := by
  have ne : ∀ {j : Nat} {sl : Sl}, (τ.set i .no)[j]? = some sl → sl ≠ .no → τ[j]? = some sl := fun {j sl} e n => by
    by_cases q : i = j
    · subst q
      rw [List.getElem?_set] at e
      simp only [if_true] at e
      split at e
      · exact absurd (Option.some.inj e).symm n
      · cases e
    · rw [List.getElem?_set_ne q] at e; exact e
  refine ⟨by simpa using s.len, s.up, s.sub, fun j d e => s.val j d (ne e (fun z => nomatch z)), fun j sl ov e1 e2 => s.own j sl ov (ne e1 (fun z => by subst z; cases e2)) e2, fun j k sl tl b e1 m1 e2 m2 => s.apart j k sl tl b (ne e1 (fun z => by subst z; exact m1 rfl)) m1 (ne e2 (fun z => by subst z; exact m2 rfl)) m2, fun j o e => s.io j o (ne e (fun z => nomatch z))⟩
theorem SRel.own_at {K : PySem.W.Frag} {M : MS} {F H : Hp} {σ : St} {τ : T} {i : Nat} {sl : Sl} {o : OV} (s : SRel K M F H σ τ) (e : τ[i]? = some sl) (m : sl.mut = some o) :
    ∃ a, σ[i]? = some (some (V.ref a)) ∧ OwnR K M F H σ (τ.set i .no) (.ref a) o := by
  obtain ⟨a, u, h1, h2, h3, h4, h5⟩ := s.own i sl o e m
  refine ⟨a, h1, a, u, rfl, h2, h3, h4, h5, fun j tl e2 m2 z => ?_⟩
  have hj : i ≠ j := fun q => by
    subst q
    rw [List.getElem?_set] at e2
    simp only [if_true] at e2
    split at e2
    · have := Option.some.inj e2
      subst this
      exact m2 rfl
    · cases e2
  rw [List.getElem?_set_ne hj] at e2
  exact hj (s.apart i j sl tl a e (by rw [m]; exact fun z => nomatch z) e2 m2 h1 z)
theorem jx_var {i : Nat} {x : Str} (h : PE X (.Name x pos) (tVar i)) : JX px W X (.Name x pos) (sVar i) := by
  refine PE.imp (pe_lock h) fun σ H Q ⟨M, F, τ, s, p⟩ => ?_
  unfold sVar at p
  cases e : τ[i]? with
  | none => rw [e] at p; exact p.elim
  | some sl =>
    rw [e] at p
    cases sl with
    | no => exact p.elim
    | io o => exact p.elim
    | val d =>
      obtain ⟨v, hv, r⟩ := s.val i d e
      exact ⟨v, hv, .inl (p F H .refl s v r)⟩
    | own o =>
      obtain ⟨a, hv, ow⟩ := s.own_at e rfl
      refine ⟨_, hv, own_lk (s.drop i) ow fun F' H' g s' rw' => ?_⟩
      exact p F' H' g (s'.sealed (o := o) hv rw') _ rw'
end
end U
end

section
set_option Elab.async false
set_option linter.all false
set_option maxRecDepth 100000
namespace U
open PySem PySem.Spec PyProof.Rows L2

/-! ### operands: frozen values, or owned objects looked at where they stand -/
inductive BR where
  | d (z : D)
  | sl (i : Nat)
def Sl.seen : Sl → Option D
  | .val d => some d
  | .own o => some o.toD
  | .io o => some o.toD
  | .no => none
def BR.at (b : BR) (τ : T) : Option D := match b with
  | .d z => some z
  | .sl i => match τ[i]? with
    | some s => s.seen
    | none => none
def BRep (K : PySem.W.Frag) (F : Hp) (σ : St) (v : V) (b : BR) : Prop := match b with
  | .d z => Rep K F v z
  | .sl i => σ[i]? = some (some v)
def rdB (K : PySem.W.Frag) (px : PX) (W : WX) (f : T → Rs BR) : TE := fun σ H Q => ∃ M F τ, SRel K M F H σ τ ∧ Post K px W M F H σ (f τ) fun b _ F' H' => ∀ v, BRep K F' σ v b → Q v H'
def JB (px : PX) (W : WX) (X : Cx) (e : Expr) (f : T → Rs BR) : Prop := PE X e (rdB X.K px W f)
section
variable {K : PySem.W.Frag} {px : PX} {W : WX} {M : MS} {F H F1 H1 : Hp} {σ : St} {τ : T}
theorem BRep.mono {v : V} {b : BR} (h : BRep K F σ v b) (e : Sub F F1) : BRep K F1 σ v b := by
  cases b with
  | d z => exact Rep.mono e h
  | sl i => exact h
theorem BRep.now {v : V} {b : BR} {z : D} (s : SRel K M F H σ τ) (h : BRep K F σ v b) (e : b.at τ = some z) : Now K F H v z := by
  cases b with
  | d y => cases e; exact .inl h
  | sl i =>
    have hv : σ[i]? = some (some v) := h
    have own : ∀ (sl : Sl) (o : OV), τ[i]? = some sl → sl.mut = some o → Now K F H v o.toD := fun sl o q e1 => by
      obtain ⟨a, u, h1, h2, h3, h4, h5⟩ := s.own i sl o q e1
      rw [h1] at hv
      cases hv
      exact .inr ⟨a, u, o, rfl, h2, h5, rfl⟩
    have e : (match τ[i]? with
      | some s => s.seen
      | none => none) = some z := e
    cases q : τ[i]? with
    | none => rw [q] at e; cases e
    | some sl =>
      rw [q] at e
      cases sl with
      | no => cases e
      | val d =>
        cases e
        obtain ⟨w, h1, r⟩ := s.val i _ q
        rw [h1] at hv
        cases hv
        exact .inl r
      | own o => cases e; exact own _ o q rfl
      | io o => cases e; exact own _ o q rfl
theorem rdB_bind {α : Type} {fa : T → Rs BR} {k : BR → T → Rs α} {R : α → T → Hp → Hp → Prop} {Q : VK} (s : SRel K M F H σ τ) (p : Post K px W M F H σ ((fa τ).bind k) R)
    (h : ∀ b τ1 F1 H1 v, Grow M F H F1 H1 → SRel K M F1 H1 σ τ1 → BRep K F1 σ v b → Post K px W M F1 H1 σ (k b τ1) R → Q v H1) : rdB K px W fa σ H Q :=
  ⟨M, F, τ, s, p.bind.imp fun d τ1 F1 H1 g s1 q v r => h d τ1 F1 H1 v g s1 r q⟩
end
def toB (f : T → Rs D) : T → Rs BR := fun τ => (f τ).bind fun z τ' => .ok (.d z) τ'
theorem JE.b {px : PX} {W : WX} {X : Cx} {e : Expr} {f : T → Rs D} (h : JE px W X e f) : JB px W X e (toB f) :=
  PE.imp h fun σ H Q ⟨M, F, τ, s, p⟩ => ⟨M, F, τ, s, p.bind.imp fun r τ1 F1 H1 g s1 q v rv => q F1 H1 .refl s1 v rv⟩
def sPk (i : Nat) : T → Rs BR := fun τ => match τ[i]? with
  | some s => if s.mut.isSome then .ok (.sl i) τ else .stuck
  | none => .stuck
theorem jb_pk {px : PX} {W : WX} {X : Cx} {pos : Pos} {i : Nat} {x : Str} (h : PE X (.Name x pos) (tVar i)) : JB px W X (.Name x pos) (sPk i) := by
  refine PE.imp h fun σ H Q ⟨M, F, τ, s, p⟩ => ?_
  unfold sPk at p
  cases e : τ[i]? with
  | none => rw [e] at p; exact p.elim
  | some sl =>
    rw [e] at p
    cases q : sl.mut with
    | none => simp [q] at p; exact p.elim
    | some o =>
      simp only [q, Option.isSome_some, if_true] at p
      obtain ⟨a, u, h1, _⟩ := s.own i sl o e q
      exact ⟨_, h1, p F H .refl s _ h1⟩

/-- a variable as an operand -/
def sRd (i : Nat) : T → Rs BR := fun τ => match τ[i]? with
  | some (.val d) => .ok (.d d) τ
  | some (.own _) => .ok (.sl i) τ
  | some (.io _) => .ok (.sl i) τ
  | _ => .stuck
theorem jb_rd {px : PX} {W : WX} {X : Cx} {pos : Pos} {i : Nat} {x : Str} (h : PE X (.Name x pos) (tVar i)) : JB px W X (.Name x pos) (sRd i) := by
  refine PE.imp h fun σ H Q ⟨M, F, τ, s, p⟩ => ?_
  unfold sRd at p
  cases e : τ[i]? with
  | none => rw [e] at p; exact p.elim
  | some sl =>
    rw [e] at p
    cases sl with
    | no => exact p.elim
    | val d => obtain ⟨v, h1, r⟩ := s.val i d e; exact ⟨_, h1, p F H .refl s _ r⟩
    | own o => obtain ⟨a, u, h1, _⟩ := s.own i _ o e rfl; exact ⟨_, h1, p F H .refl s _ h1⟩
    | io o => obtain ⟨a, u, h1, _⟩ := s.own i _ o e rfl; exact ⟨_, h1, p F H .refl s _ h1⟩
def ap2 (g : D → D → Option PR) (x y : BR) (τ : T) : Rs PR := match x.at τ, y.at τ with
  | some d, some e => (match g d e with | some r => .ok r τ | none => .stuck)
  | _, _ => .stuck
theorem ap2_ok {K : PySem.W.Frag} {px : PX} {W : WX} {M : MS} {F H : Hp} {σ : St} {τ : T} {g : D → D → Option PR} {x y : BR} {R : PR → T → Hp → Hp → Prop} (p : Post K px W M F H σ (ap2 g x y τ) R) :
    ∃ d e r, x.at τ = some d ∧ y.at τ = some e ∧ g d e = some r ∧ Post K px W M F H σ (.ok r τ) R := by
  unfold ap2 at p
  cases e1 : x.at τ with
  | none => rw [e1] at p; exact p.elim
  | some d => cases e2 : y.at τ with
    | none => rw [e1, e2] at p; exact p.elim
    | some e =>
      rw [e1, e2] at p
      cases e3 : g d e with
      | none => simp only [e3] at p; exact p.elim
      | some r => simp only [e3] at p; exact ⟨d, e, r, rfl, rfl, e3, p⟩
def sOp2 (g : D → D → Option PR) (fa fb : T → Rs BR) : T → Rs PR := fun τ => (fa τ).bind fun x τ1 => (fb τ1).bind fun y τ2 => ap2 g x y τ2
section
variable {px : PX} {W : WX} {X : Cx} {pos : Pos} {a b : Expr} {fa fb : T → Rs BR} {g : D → D → Option PR}
theorem rd_op2 {K : PySem.W.Frag} {σ : St} {H : Hp} {Q : VK} (h : rdX K px W (sOp2 g fa fb) σ H Q) : tOp (r2 K g) (rdB K px W fa) (rdB K px W fb) σ H Q := by
  obtain ⟨M, F, τ, s, p⟩ := h
  refine rdB_bind s p fun x τ1 F1 H1 v g1 s1 rv p1 => rdB_bind s1 p1 fun y τ2 F2 H2 w g2 s2 rw' p2 => ?_
  obtain ⟨d, e, r, e1, e2, e3, p3⟩ := ap2_ok p2
  exact ⟨F2, d, e, r, s2.sub, (rv.mono g2.frz).now s2 e1, rw'.now s2 e2, e3, p3.pw s2⟩
theorem jx_bin {op : Operator} (ho : OpR X (binaryOp op) (r2 X.K g)) (ha : JB px W X a fa) (hb : JB px W X b fb) : JX px W X (.BinOp a op b pos) (sOp2 g fa fb) :=
  PE.imp (pe_op ho ha hb) fun _ _ _ h => rd_op2 h
theorem jx_cmp {op : CmpOp} (ho : OpR X (compareOp op) (r2 X.K g)) (ha : JB px W X a fa) (hb : JB px W X b fb) (hm : behindInMarks op b = false) : JX px W X (.Compare a [op] [b] pos) (sOp2 g fa fb) :=
  PE.imp (pe_cmpR ho ha hb hm) fun _ _ _ h => rd_op2 h
theorem jx_ix (hr : IxR X (r2 X.K g)) (ha : JB px W X a fa) (hb : JB px W X b fb) (hs : PlainIx b) : JX px W X (.Subscript a b pos) (sOp2 g fa fb) :=
  PE.imp (pe_ix hr ha hb hs) fun _ _ _ h => rd_op2 h
/-- a value as a test: its truth -/
def sTru (f : T → Rs BR) : T → Rs Bool := fun τ => (f τ).bind fun x τ1 => match x.at τ1 with
  | some d => (match d.truth with | some b => .ok b τ1 | none => .stuck)
  | none => .stuck
/-- a comparison as a test -/
def sTB (f : T → Rs PR) : T → Rs Bool := fun τ => (f τ).bind fun r τ1 => match r with
  | .d (.bl b) => .ok b τ1
  | _ => .stuck
theorem rd_tb {K : PySem.W.Frag} {σ : St} {H : Hp} {f : T → Rs PR} {Q : Bool → Hp → Prop} (h : rdT K px W (sTB f) σ H Q) : rdX K px W f σ H (fun x H1 => ∃ k, x = .bl k ∧ Q k H1) := by
  obtain ⟨M, F, τ, s, p⟩ := h
  refine ⟨M, F, τ, s, p.bind.imp fun r τ1 F1 H1 g1 s1 q => ?_⟩
  cases r with
  | o z => exact q.elim
  | d z => cases z with
    | bl c => exact fun v rv => by cases rv; exact ⟨c, rfl, q F1 H1 .refl s1⟩
    | _ => exact q.elim
theorem jt_cmp {op : CmpOp} (ho : OpR X (compareOp op) (r2 X.K g)) (ha : JB px W X a fa) (hb : JB px W X b fb) (hm : behindInMarks op b = false) : JT px W X (.Compare a [op] [b] pos) (sTB (sOp2 g fa fb)) :=
  PT.imp (pt_cmpR ho ha hb hm) fun _ _ _ h => rd_op2 (rd_tb h)
theorem jt_truth (ha : JB px W X a fa) (he : ∀ whole, isTrue a X.env whole = (do let v ← whole; standAt a.pos; holding [v] (truthy v))) : JT px W X a (sTru fa) := by
  refine PT.imp (pt_truth ha he) fun σ H Q ⟨M, F, τ, s, p⟩ => rdB_bind s p fun x τ1 F1 H1 v g1 s1 rv p1 => ?_
  cases e1 : x.at τ1 with
  | none => simp only [e1] at p1; exact p1.elim
  | some d =>
    cases e2 : d.truth with
    | none => simp only [e1, e2] at p1; exact p1.elim
    | some b =>
      simp only [e1, e2] at p1
      exact ⟨b, truth_of s1.sub (rv.now s1 e1) e2, p1 F1 H1 .refl s1⟩

variable {ta tb : T → Rs Bool} {rest : List Expr}
def sAnd (ta tb : T → Rs Bool) : T → Rs Bool := fun τ => (ta τ).bind fun c τ1 => if c then tb τ1 else .ok false τ1
def sOr (ta tb : T → Rs Bool) : T → Rs Bool := fun τ => (ta τ).bind fun c τ1 => if c then .ok true τ1 else tb τ1
def sNot (ta : T → Rs Bool) : T → Rs Bool := fun τ => (ta τ).bind fun c τ1 => .ok (!c) τ1
def JW (px : PX) (W : WX) (X : Cx) (e : Expr) (f : T → Rs Bool) : Prop := L2.PW X e (rdT X.K px W f)
theorem PW.imp' {X : Cx} {e : Expr} {t t' : TT} (h : L2.PW X e t) (i : ∀ σ H Q, t' σ H Q → t σ H Q) : L2.PW X e t' := ⟨fun wh pins s σ H Q I q => h.run wh pins s σ H Q I (i _ _ _ q)⟩
theorem jw_and1 (ha : JT px W X a ta) : JW px W X (.BoolOp .And [a] pos) ta := pw_and1 ha
theorem jw_or1 (ha : JT px W X a ta) : JW px W X (.BoolOp .Or [a] pos) ta := pw_or1 ha
theorem jw_and (ha : JT px W X a ta) (hb : JW px W X (.BoolOp .And (b :: rest) pos) tb) : JW px W X (.BoolOp .And (a :: b :: rest) pos) (sAnd ta tb) :=
  PW.imp' (pw_and ha hb) fun σ H Q ⟨M, F, τ, s, p⟩ => rdT_bind s p fun c τ1 F1 H1 g1 s1 q => by
    cases c with
    | true => exact ⟨M, F1, τ1, s1, q⟩
    | false => exact q F1 H1 .refl s1
theorem jw_or (ha : JT px W X a ta) (hb : JW px W X (.BoolOp .Or (b :: rest) pos) tb) : JW px W X (.BoolOp .Or (a :: b :: rest) pos) (sOr ta tb) :=
  PW.imp' (pw_or ha hb) fun σ H Q ⟨M, F, τ, s, p⟩ => rdT_bind s p fun c τ1 F1 H1 g1 s1 q => by
    cases c with
    | false => exact ⟨M, F1, τ1, s1, q⟩
    | true => exact q F1 H1 .refl s1
theorem JW.t {e : Expr} {f : T → Rs Bool} (h : JW px W X e f) : JT px W X e f := L2.PW.pt h
theorem jt_not (ha : JT px W X a ta) : JT px W X (.UnaryOp .Not a pos) (sNot ta) :=
  PT.imp (pt_not ha) fun σ H Q ⟨M, F, τ, s, p⟩ => rdT_bind s p fun c τ1 F1 H1 g1 s1 q => q F1 H1 .refl s1
end
end U
end

section
set_option Elab.async false
set_option linter.all false
set_option maxRecDepth 100000
namespace U
open PySem PySem.Spec PyProof.Rows L2

section
variable {px : PX} {W : WX} {X : Cx} {pos : Pos} {a b c : Expr} {rest : List Expr}
/-! ### and, or, not as values; a if t else b -/
/-- the truth of a result as it comes: frozen, or an owned one -/
def PR.truth (r : PR) : Option Bool := r.toD.truth
def sAndV (f g : T → Rs PR) : T → Rs PR := fun τ => (f τ).bind fun r τ1 => match r.truth with
  | some true => g τ1
  | some false => .ok r τ1
  | none => .stuck
def sOrV (f g : T → Rs PR) : T → Rs PR := fun τ => (f τ).bind fun r τ1 => match r.truth with
  | some true => .ok r τ1
  | some false => g τ1
  | none => .stuck
def sNotV (f : T → Rs PR) : T → Rs PR := fun τ => (f τ).bind fun r τ1 => match r.truth with
  | some k => .ok (.d (.bl (!k))) τ1
  | none => .stuck
theorem rdX_bind {K : PySem.W.Frag} {M : MS} {F H : Hp} {σ : St} {τ : T} {α : Type} {fa : T → Rs PR} {k : PR → T → Rs α} {R : α → T → Hp → Hp → Prop} {Q : VK} (s : SRel K M F H σ τ) (p : Post K px W M F H σ ((fa τ).bind k) R)
    (h : ∀ r τ1 F1 H1 v, Grow M F H F1 H1 → SRel K M F1 H1 σ τ1 → (match r with | .d z => Rep K F1 v z | .o z => OwnR K M F1 H1 σ τ1 v z) → Post K px W M F1 H1 σ (k r τ1) R → Q v H1) : rdX K px W fa σ H Q :=
  ⟨M, F, τ, s, p.bind.imp fun r τ1 F1 H1 g s1 q => by
    cases r with
    | d z => exact fun v rv => h (.d z) τ1 F1 H1 v g s1 rv q
    | o z => exact fun v rv => h (.o z) τ1 F1 H1 v g s1 rv q⟩
theorem now_pr {K : PySem.W.Frag} {M : MS} {F H : Hp} {σ : St} {τ : T} {r : PR} {v : V} (h : match r with | .d z => Rep K F v z | .o z => OwnR K M F H σ τ v z) : Now K F H v r.toD := by
  cases r with
  | d z => exact .inl h
  | o z =>
    obtain ⟨x, u, rfl, hu, _, _, ho, _⟩ := h
    exact .inr ⟨x, u, z, rfl, hu, ho, rfl⟩
theorem back_pr {K : PySem.W.Frag} {M : MS} {F H : Hp} {σ : St} {τ : T} {r : PR} {v : V} {Q : VK} (s : SRel K M F H σ τ) (h : match r with | .d z => Rep K F v z | .o z => OwnR K M F H σ τ v z)
    (p : Post K px W M F H σ (.ok r τ) (RX K M σ Q)) : Q v H := by
  cases r with
  | d z => exact p F H .refl s v h
  | o z => exact p F H .refl s v h
theorem jx_one {op : BoolOp} {f : T → Rs PR} (h : JX px W X a f) : JX px W X (.BoolOp op [a] pos) f := pe_one h
theorem jx_and {f g : T → Rs PR} (ha : JX px W X a f) (hb : JX px W X (.BoolOp .And (b :: rest) pos) g) : JX px W X (.BoolOp .And (a :: b :: rest) pos) (sAndV f g) := by
  refine PE.imp (pe_andT ha hb) fun σ H Q ⟨M, F, τ, s, p⟩ => rdX_bind s p fun r τ1 F1 H1 v g1 s1 rv p1 => ?_
  cases e : r.truth with
  | none => simp only [e] at p1; exact p1.elim
  | some k =>
    refine ⟨k, truth_of s1.sub (now_pr rv) e, ?_⟩
    cases k with
    | true => simp only [e] at p1; exact ⟨M, F1, τ1, s1, p1⟩
    | false => simp only [e] at p1; exact back_pr s1 rv p1
theorem jx_or {f g : T → Rs PR} (ha : JX px W X a f) (hb : JX px W X (.BoolOp .Or (b :: rest) pos) g) : JX px W X (.BoolOp .Or (a :: b :: rest) pos) (sOrV f g) := by
  refine PE.imp (pe_orT ha hb) fun σ H Q ⟨M, F, τ, s, p⟩ => rdX_bind s p fun r τ1 F1 H1 v g1 s1 rv p1 => ?_
  cases e : r.truth with
  | none => simp only [e] at p1; exact p1.elim
  | some k =>
    refine ⟨k, truth_of s1.sub (now_pr rv) e, ?_⟩
    cases k with
    | false => simp only [e] at p1; exact ⟨M, F1, τ1, s1, p1⟩
    | true => simp only [e] at p1; exact back_pr s1 rv p1
theorem jx_not {f : T → Rs PR} (ha : JX px W X a f) : JX px W X (.UnaryOp .Not a pos) (sNotV f) := by
  refine PE.imp (pe_notT ha) fun σ H Q ⟨M, F, τ, s, p⟩ => rdX_bind s p fun r τ1 F1 H1 v g1 s1 rv p1 => ?_
  cases e : r.truth with
  | none => simp only [e] at p1; exact p1.elim
  | some k =>
    simp only [e] at p1
    exact ⟨k, truth_of s1.sub (now_pr rv) e, p1 F1 H1 .refl s1 _ (.bl _)⟩
def sIte (t : T → Rs Bool) (f g : T → Rs PR) : T → Rs PR := fun τ => (t τ).bind fun k τ1 => if k then f τ1 else g τ1
theorem jx_ife {t : T → Rs Bool} {f g : T → Rs PR} (hc : JT px W X c t) (ha : JX px W X a f) (hb : JX px W X b g) : JX px W X (.IfExp c a b pos) (sIte t f g) :=
  PE.imp (pe_ifExp hc ha hb) fun σ H Q ⟨M, F, τ, s, p⟩ => rdT_bind s p fun k τ1 F1 H1 g1 s1 q => by
    cases k with
    | true => exact ⟨M, F1, τ1, s1, q⟩
    | false => exact ⟨M, F1, τ1, s1, q⟩
/-- -e -/
def sNeg (f : T → Rs D) : T → Rs PR := fun τ => (f τ).bind fun d τ1 => match d with
  | .int i => .ok (.d (.int (-i))) τ1
  | _ => .stuck
theorem jx_neg {f : T → Rs D} (ha : JE px W X a f) : JX px W X (.UnaryOp .USub a pos) (sNeg f) :=
  PE.imp (pe_un un_neg ha) fun σ H Q ⟨M, F, τ, s, p⟩ => rdE_bind s p fun d τ1 F1 H1 v g1 s1 rv q => by
    cases d <;> first | exact q.elim | skip
    cases rv
    exact ⟨_, rfl, q F1 H1 .refl s1 _ (.int _)⟩

/-! ### lists of arguments, displays -/
variable {e : Expr} {es : List Expr}
def sNil : T → Rs (List D) := fun τ => .ok [] τ
def sCons (f : T → Rs D) (g : T → Rs (List D)) : T → Rs (List D) := fun τ => (f τ).bind fun d τ1 => (g τ1).bind fun ds τ2 => .ok (d :: ds) τ2
def sStar (f : T → Rs BR) (g : T → Rs (List D)) : T → Rs (List D) := fun τ => (f τ).bind fun x τ1 => match x.at τ1 with
  | some (.tup xs) => (g τ1).bind fun ds τ2 => .ok (xs ++ ds) τ2
  | some (.lst xs) => (g τ1).bind fun ds τ2 => .ok (xs ++ ds) τ2
  | _ => .stuck
theorem ja_nil : JA px W X [] sNil := PA.imp pa_nil fun σ H Q ⟨M, F, τ, s, p⟩ => p F H .refl s _ .nil
theorem ja_cons {f : T → Rs D} {g : T → Rs (List D)} (ha : JE px W X e f) (hr : JA px W X es g) (hs : starEach (e :: es) X.env = (false, eval e X.env) :: starEach es X.env) : JA px W X (e :: es) (sCons f g) :=
  PA.imp (pa_cons ha hr hs) fun σ H Q ⟨M, F, τ, s, p⟩ => rdE_bind s p fun d τ1 F1 H1 v g1 s1 rv p1 => rdA_bind s1 p1 fun ds τ2 F2 H2 vs g2 s2 rvs p2 => p2 F2 H2 .refl s2 _ (.cons (rv.mono g2.frz) rvs)
theorem ja_star {sp : Pos} {f : T → Rs BR} {g : T → Rs (List D)} (ha : JB px W X e f) (hr : JA px W X es g) (hs : starEach (.Starred e sp :: es) X.env = (true, eval e X.env) :: starEach es X.env) : JA px W X (.Starred e sp :: es) (sStar f g) := by
  refine PA.imp (StX.pa_star ha hr hs) fun σ H Q ⟨M, F, τ, s, p⟩ => rdB_bind s p fun x τ1 F1 H1 v g1 s1 rv p1 => ?_
  cases e1 : x.at τ1 with
  | none => simp only [e1] at p1; exact p1.elim
  | some d =>
    have n := rv.now s1 e1
    cases d <;> first | (simp only [e1] at p1; exact p1.elim) | skip
    · obtain ⟨l, ws, rfl, hl, r1⟩ := n.tup s1.sub
      simp only [e1] at p1
      exact ⟨l, ws, rfl, .inl (.of hl), rdA_bind s1 p1 fun ds τ2 F2 H2 vs g2 s2 rvs p2 => p2 F2 H2 .refl s2 _ ((r1.mono g2.frz).append rvs)⟩
    · obtain ⟨l, ws, rfl, hl, r1⟩ := n.lst s1.sub
      simp only [e1] at p1
      exact ⟨l, ws, rfl, .inr (.of hl), rdA_bind s1 p1 fun ds τ2 F2 H2 vs g2 s2 rvs p2 => p2 F2 H2 .refl s2 _ ((r1.mono g2.frz).append rvs)⟩
def sTup (g : T → Rs (List D)) : T → Rs PR := fun τ => (g τ).bind fun ds τ1 => if ds.length ≤ lim then .ok (.d (.tup ds)) τ1 else .stuck
def sLst (g : T → Rs (List D)) : T → Rs PR := fun τ => (g τ).bind fun ds τ1 => if ds.length ≤ lim then .ok (.o (.l ds)) τ1 else .stuck
theorem jx_tup {n : Nat} {g : T → Rs (List D)} (h : JA px W X es g) : JX px W X (.Tuple es n pos) (sTup g) :=
  PE.imp (pe_tup h) fun σ H Q ⟨M, F, τ, s, p⟩ => rdA_bind s p fun ds τ1 F1 H1 vs g1 s1 rvs p1 => by
    by_cases c : ds.length ≤ lim
    · rw [if_pos c] at p1
      exact ⟨by rw [rvs.length]; exact lim_ok c, (p1.pw s1).tup s1.sub rvs⟩
    · rw [if_neg c] at p1; exact p1.elim
theorem jx_lst {g : T → Rs (List D)} (h : JA px W X es g) : JX px W X (.List es pos) (sLst g) :=
  PE.imp (pe_lst h) fun σ H Q ⟨M, F, τ, s, p⟩ => rdA_bind s p fun ds τ1 F1 H1 vs g1 s1 rvs p1 => by
    by_cases c : ds.length ≤ lim
    · rw [if_pos c] at p1
      exact ⟨by rw [rvs.length]; exact lim_ok c, (p1.pw s1).lst s1.sub rvs⟩
    · rw [if_neg c] at p1; exact p1.elim

/-! ### slices -/
def JOp (px : PX) (W : WX) (X : Cx) (e : Option Expr) (f : T → Rs (Option Int)) : Prop := PO X e (fun σ H Q => ∃ M F τ, SRel X.K M F H σ τ ∧ Post X.K px W M F H σ (f τ) fun o _ _ H' => Q o H')
def sNoP : T → Rs (Option Int) := fun τ => .ok none τ
def sSmP (f : T → Rs D) : T → Rs (Option Int) := fun τ => (f τ).bind fun d τ1 => match d with
  | .int i => .ok (some i) τ1
  | _ => .stuck
theorem PO.imp {e : Option Expr} {t t' : TO} (h : PO X e t) (i : ∀ σ H Q, t' σ H Q → t σ H Q) : PO X e t' := ⟨fun pins s σ H Q I q => h.run pins s σ H Q I (i _ _ _ q)⟩
theorem jo_none : JOp px W X none sNoP := PO.imp po_none fun σ H Q ⟨M, F, τ, s, p⟩ => p F H .refl s
theorem jo_some {f : T → Rs D} (h : JE px W X e f) : JOp px W X (some e) (sSmP f) :=
  PO.imp (po_some h) fun σ H Q ⟨M, F, τ, s, p⟩ => rdE_bind s p fun d τ1 F1 H1 v g1 s1 rv q => by
    cases d <;> first | exact q.elim | skip
    cases rv
    exact ⟨_, rfl, q F1 H1 .refl s1⟩
def sSl (f : T → Rs BR) (l u : T → Rs (Option Int)) : T → Rs PR := fun τ => (f τ).bind fun x τ1 => (l τ1).bind fun lo τ2 => (u τ2).bind fun hi τ3 => match x.at τ3 with
  | some d => (match gSl lo hi d with | some r => .ok r τ3 | none => .stuck)
  | none => .stuck
theorem jx_sl {lo hi : Option Expr} {p2 : Pos} {f : T → Rs BR} {l u : T → Rs (Option Int)} (ha : JB px W X a f) (hl : JOp px W X lo l) (hu : JOp px W X hi u) : JX px W X (.Subscript a (.Slice lo hi none p2) pos) (sSl f l u) := by
  refine PE.imp (pe_slice sl_U ha hl hu) fun σ H Q ⟨M, F, τ, s, p⟩ => rdB_bind s p fun x τ1 F1 H1 v g1 s1 rv p1 => ?_
  refine ⟨M, F1, τ1, s1, p1.bind.imp fun lo τ2 F2 H2 g2 s2 p2 => ⟨M, F2, τ2, s2, p2.bind.imp fun hi τ3 F3 H3 g3 s3 p3 => ?_⟩⟩
  cases e1 : x.at τ3 with
  | none => simp only [e1] at p3; exact p3.elim
  | some d =>
    cases e2 : gSl lo hi d with
    | none => simp only [e1, e2] at p3; exact p3.elim
    | some r =>
      simp only [e1, e2] at p3
      exact ⟨F3, d, r, s3.sub, (rv.mono (g2.frz.trans g3.frz)).now s3 e1, e2, p3.pw s3⟩

/-! ### built-in calls -/
/-- arguments that are looked at -/
inductive BRL (K : PySem.W.Frag) (F : Hp) (σ : St) : List V → List BR → Prop
  | nil : BRL K F σ [] []
  | cons {v : V} {vs : List V} {b : BR} {bs : List BR} : BRep K F σ v b → BRL K F σ vs bs → BRL K F σ (v :: vs) (b :: bs)
theorem BRL.mono {K : PySem.W.Frag} {F F' : Hp} {σ : St} (e : Sub F F') : ∀ {vs : List V} {bs : List BR}, BRL K F σ vs bs → BRL K F' σ vs bs
  | _, _, .nil => .nil
  | _, _, .cons h r => .cons (h.mono e) (r.mono e)
def atL : List BR → T → Option (List D)
  | [], _ => some []
  | b :: bs, τ => match b.at τ, atL bs τ with
    | some d, some ds => some (d :: ds)
    | _, _ => none
theorem BRL.now {K : PySem.W.Frag} {M : MS} {F H : Hp} {σ : St} {τ : T} (s : SRel K M F H σ τ) : ∀ {vs : List V} {bs : List BR} {ds : List D}, BRL K F σ vs bs → atL bs τ = some ds → NowL K F H vs ds
  | _, _, _, .nil, e => by cases e; exact .nil
  | _, _, _, .cons (b := b) (bs := bs) h r, e => by
    unfold atL at e
    cases e1 : b.at τ with
    | none => rw [e1] at e; cases e
    | some d => cases e2 : atL bs τ with
      | none => rw [e1, e2] at e; cases e
      | some ds => rw [e1, e2] at e; cases e; exact .cons (h.now s e1) (BRL.now s r e2)
def JAB (px : PX) (W : WX) (X : Cx) (es : List Expr) (f : T → Rs (List BR)) : Prop := PA X es (fun σ H Q => ∃ M F τ, SRel X.K M F H σ τ ∧ Post X.K px W M F H σ (f τ) fun bs _ F' H' => ∀ vs, BRL X.K F' σ vs bs → Q vs H')
def sBNil : T → Rs (List BR) := fun τ => .ok [] τ
def sBCons (f : T → Rs BR) (g : T → Rs (List BR)) : T → Rs (List BR) := fun τ => (f τ).bind fun d τ1 => (g τ1).bind fun ds τ2 => .ok (d :: ds) τ2
theorem jab_nil : JAB px W X [] sBNil := PA.imp pa_nil fun σ H Q ⟨M, F, τ, s, p⟩ => p F H .refl s _ .nil
theorem jab_cons {f : T → Rs BR} {g : T → Rs (List BR)} (ha : JB px W X e f) (hr : JAB px W X es g) (hs : starEach (e :: es) X.env = (false, eval e X.env) :: starEach es X.env) : JAB px W X (e :: es) (sBCons f g) :=
  PA.imp (pa_cons ha hr hs) fun σ H Q ⟨M, F, τ, s, p⟩ => rdB_bind s p fun d τ1 F1 H1 v g1 s1 rv p1 =>
    ⟨M, F1, τ1, s1, p1.bind.imp fun ds τ2 F2 H2 g2 s2 p2 vs rvs => p2 F2 H2 .refl s2 _ (.cons (rv.mono g2.frz) rvs)⟩
def sCB (g : List D → Option PR) (f : T → Rs (List BR)) : T → Rs PR := fun τ => (f τ).bind fun bs τ1 => match atL bs τ1 with
  | some ds => (match g ds with | some r => .ok r τ1 | none => .stuck)
  | none => .stuck
theorem rd_cb {K : PySem.W.Frag} {σ : St} {H : Hp} {Q : VK} {g : List D → Option PR} {f : T → Rs (List BR)} (h : rdX K px W (sCB g f) σ H Q) :
    (∃ M F τ, SRel K M F H σ τ ∧ Post K px W M F H σ (f τ) fun bs _ F' H' => ∀ vs, BRL K F' σ vs bs → rC K g vs H' Q) := by
  obtain ⟨M, F, τ, s, p⟩ := h
  refine ⟨M, F, τ, s, p.bind.imp fun bs τ1 F1 H1 g1 s1 p1 vs rvs => ?_⟩
  cases e1 : atL bs τ1 with
  | none => simp only [e1] at p1; exact p1.elim
  | some ds =>
    cases e2 : g ds with
    | none => simp only [e1, e2] at p1; exact p1.elim
    | some r =>
      simp only [e1, e2] at p1
      exact ⟨F1, ds, r, s1.sub, rvs.now s1 e1, e2, p1.pw s1⟩
theorem jx_callB {x : Str} {id : String} {p : Pos} {g : List D → Option PR} {f : T → Rs (List BR)} (hc : CallR X (.builtin id) (rC X.K g)) (hg : Gl X x) (hm : X.mg x = none) (hv : bootBuiltins x = some (.builtin id)) (ha : JAB px W X (e :: es) f)
    (hn : x ≠ "__name__") (hdb : (x == ("__debug__" : Str)) = false) (he : starEach (e :: es) X.env = (false, eval e X.env) :: starEach es X.env) (hpl : (backTo pos (starEach es X.env)).any (·.1) = false) :
    JX px W X (.Call (.Name x p) (e :: es) [] pos) (sCB g f) := PE.imp (pe_callB hc hg hm hv ha hn hdb he hpl) fun _ _ _ h => rd_cb h
theorem jx_callTy {x : Str} {id : String} {p : Pos} {g : List D → Option PR} {f : T → Rs (List BR)} (hc : CallR X (.type id) (rC X.K g)) (hg : Gl X x) (hm : X.mg x = none) (hv : bootBuiltins x = some (.type id)) (ha : JAB px W X (e :: es) f)
    (hn : x ≠ "__name__") (hdb : (x == ("__debug__" : Str)) = false) (he : starEach (e :: es) X.env = (false, eval e X.env) :: starEach es X.env) (hpl : (backTo pos (starEach es X.env)).any (·.1) = false) :
    JX px W X (.Call (.Name x p) (e :: es) [] pos) (sCB g f) := PE.imp (pe_callTy hc hg hm hv ha hn hdb he hpl) fun _ _ _ h => rd_cb h
end
end U
end

section
set_option Elab.async false
set_option linter.all false
set_option maxRecDepth 100000
namespace U
open PySem PySem.Spec PyProof.Rows L2

/-! ### slots written -/
theorem get_set {α : Type} {l : List α} {i j : Nat} {x y : α} (h : (l.set i x)[j]? = some y) : (j = i ∧ y = x ∧ i < l.length) ∨ (j ≠ i ∧ l[j]? = some y) := by
  by_cases q : i = j
  · subst q
    rw [List.getElem?_set] at h
    simp only [if_true] at h
    split at h
    · rename_i hl; exact .inl ⟨rfl, (Option.some.inj h).symm, hl⟩
    · cases h
  · rw [List.getElem?_set_ne q] at h
    exact .inr ⟨Ne.symm q, h⟩
def notIo (τ : T) (i : Nat) : Bool := match τ[i]? with
  | some (.io _) => false
  | some _ => true
  | none => false
theorem notIo_lt {τ : T} {i : Nat} (h : notIo τ i = true) : i < τ.length := by
  unfold notIo at h
  cases e : τ[i]? with
  | none => rw [e] at h; cases h
  | some s => exact (List.getElem?_eq_some_iff.mp e).1
section
variable {K : PySem.W.Frag} {px : PX} {W : WX} {M : MS} {F H F1 H1 : Hp} {σ : St} {τ : T}
theorem SRel.setv {i : Nat} {v : V} {d : D} (s : SRel K M F H σ τ) (h : notIo τ i = true) (r : Rep K F v d) : SRel K M F H (σ.set i (some v)) (τ.set i (.val d)) := by
  have hi := Nat.lt_of_lt_of_le (notIo_lt h) s.len
  refine ⟨by simpa using s.len, s.up, s.sub, fun j d' e => ?_, fun j sl ov e1 e2 => ?_, fun j k sl tl b e1 m1 e2 m2 f1 f2 => ?_, fun j o e => ?_⟩
  · rcases get_set e with ⟨rfl, q, _⟩ | ⟨n, e⟩
    · cases q; exact ⟨v, by rw [List.getElem?_set_self hi], r⟩
    · rw [List.getElem?_set_ne (Ne.symm n)]; exact s.val j d' e
  · rcases get_set e1 with ⟨rfl, rfl, _⟩ | ⟨n, e⟩
    · cases e2
    · rw [List.getElem?_set_ne (Ne.symm n)]; exact s.own j sl ov e e2
  · rcases get_set e1 with ⟨rfl, rfl, _⟩ | ⟨n1, e1⟩
    · exact absurd rfl m1
    · rcases get_set e2 with ⟨rfl, rfl, _⟩ | ⟨n2, e2⟩
      · exact absurd rfl m2
      · rw [List.getElem?_set_ne (Ne.symm n1)] at f1
        rw [List.getElem?_set_ne (Ne.symm n2)] at f2
        exact s.apart j k sl tl b e1 m1 e2 m2 f1 f2
  · rcases get_set e with ⟨rfl, q, _⟩ | ⟨n, e⟩
    · cases q
    · rw [List.getElem?_set_ne (Ne.symm n)]; exact s.io j o e
theorem SRel.seto {i : Nat} {v : V} {o : OV} (s : SRel K M F H σ τ) (h : notIo τ i = true) (r : OwnR K M F H σ τ v o) : SRel K M F H (σ.set i (some v)) (τ.set i (.own o)) := by
  have hi := Nat.lt_of_lt_of_le (notIo_lt h) s.len
  obtain ⟨a, u, rfl, hu, hf, hm, ho, hx⟩ := r
  refine ⟨by simpa using s.len, s.up, s.sub, fun j d' e => ?_, fun j sl ov e1 e2 => ?_, fun j k sl tl b e1 m1 e2 m2 f1 f2 => ?_, fun j o e => ?_⟩
  · rcases get_set e with ⟨rfl, q, _⟩ | ⟨n, e⟩
    · cases q
    · rw [List.getElem?_set_ne (Ne.symm n)]; exact s.val j d' e
  · rcases get_set e1 with ⟨rfl, rfl, _⟩ | ⟨n, e⟩
    · cases e2
      exact ⟨a, u, by rw [List.getElem?_set_self hi], hu, hf, hm, ho⟩
    · rw [List.getElem?_set_ne (Ne.symm n)]; exact s.own j sl ov e e2
  · rcases get_set e1 with ⟨rfl, rfl, _⟩ | ⟨n1, e1'⟩
    · rw [List.getElem?_set_self hi] at f1
      cases f1
      rcases get_set e2 with ⟨rfl, rfl, _⟩ | ⟨n2, e2⟩
      · rfl
      · rw [List.getElem?_set_ne (Ne.symm n2)] at f2
        exact absurd f2 (hx k tl e2 m2)
    · rw [List.getElem?_set_ne (Ne.symm n1)] at f1
      rcases get_set e2 with ⟨q, rfl, _⟩ | ⟨n2, e2'⟩
      · rw [q, List.getElem?_set_self hi] at f2
        cases f2
        exact absurd f1 (hx j sl e1' m1)
      · rw [List.getElem?_set_ne (Ne.symm n2)] at f2
        exact s.apart j k sl tl b e1' m1 e2' m2 f1 f2
  · rcases get_set e with ⟨rfl, q, _⟩ | ⟨n, e⟩
    · cases q
    · rw [List.getElem?_set_ne (Ne.symm n)]; exact s.io j o e
def Sl.put (s : Sl) (o : OV) : Sl := match s with
  | .io _ => .io o
  | _ => .own o
/-- an owned object is written -/
theorem SRel.write {i : Nat} {sl : Sl} {o o' : OV} {a : Addr} {u u' : HO} (s : SRel K M F H σ τ) (e : τ[i]? = some sl) (m : sl.mut = some o) (hv : σ[i]? = some (some (V.ref a))) (hu : H a = some u) (hf : F a = none) (hm : M.m a) (ho : OwnO K F o' u') :
    Grow M F H F (upd H a u') ∧ SRel K M F (upd H a u') σ (τ.set i (sl.put o')) := by
  have hi := (List.getElem?_eq_some_iff.mp e).1
  have mne : sl.mut ≠ none := by rw [m]; exact fun z => nomatch z
  have pm : (sl.put o').mut = some o' := by cases sl <;> rfl
  refine ⟨⟨fun b q => ?_, Sub.refl _, fun b w q n => ?_, fun b q _ _ => q⟩, by simpa using s.len, fun b q => ?_, fun b w q => ?_, fun j d' q => ?_, fun j tl ov e1 e2 => ?_, fun j k tl wl b e1 m1 e2 m2 f1 f2 => ?_, fun j o q => ?_⟩
  · by_cases c : b = a
    · rw [c, upd_same] at q; cases q
    · rw [upd_ne c] at q; exact q
  · rw [upd_ne (fun c => n (by rw [c]; exact hm))]; exact q
  · by_cases c : b = a
    · rw [c]; exact hm
    · rw [upd_ne c] at q; exact s.up b q
  · rw [upd_ne (fun c => by rw [c, hf] at q; cases q)]; exact s.sub b w q
  · rcases get_set q with ⟨rfl, z, _⟩ | ⟨n, q⟩
    · cases sl <;> cases z
    · exact s.val j d' q
  · rcases get_set e1 with ⟨rfl, rfl, _⟩ | ⟨n, e1⟩
    · rw [pm] at e2; cases e2
      exact ⟨a, u', hv, upd_same, hf, hm, ho⟩
    · obtain ⟨b, w, h1, h2, h3, h4, h5⟩ := s.own j tl ov e1 e2
      have ne : b ≠ a := fun c => n (s.apart j i tl sl a e1 (by rw [e2]; exact fun z => nomatch z) e mne (by rw [← c]; exact h1) hv)
      exact ⟨b, w, h1, by rw [upd_ne ne]; exact h2, h3, h4, h5⟩
  · have o1 : ∃ tl', τ[j]? = some tl' ∧ tl'.mut ≠ none := by
      rcases get_set e1 with ⟨rfl, rfl, _⟩ | ⟨n, e1⟩
      · exact ⟨sl, e, mne⟩
      · exact ⟨tl, e1, m1⟩
    have o2 : ∃ tl', τ[k]? = some tl' ∧ tl'.mut ≠ none := by
      rcases get_set e2 with ⟨rfl, rfl, _⟩ | ⟨n, e2⟩
      · exact ⟨sl, e, mne⟩
      · exact ⟨wl, e2, m2⟩
    obtain ⟨t1, a1, b1⟩ := o1
    obtain ⟨t2, a2, b2⟩ := o2
    exact s.apart j k t1 t2 b a1 b1 a2 b2 f1 f2
  · rcases get_set q with ⟨rfl, z, _⟩ | ⟨n, q⟩
    · cases sl <;> first | (cases z; done) | skip
      exact s.io j _ e
    · exact s.io j o q
end

/-! ### statements -/
inductive SR where
  | nx (t : T) | rt (r : PR) (t : T) | bk (t : T) | ct (t : T) | exc (x : Ex) (t : T) | stuck
def Rs.s {α : Type} (m : Rs α) (f : α → T → SR) : SR := match m with
  | .ok a t => f a t
  | .exc x t => .exc x t
  | .stuck => .stuck
def SPost (K : PySem.W.Frag) (px : PX) (W : WX) (M : MS) (F H : Hp) (D : Ends) : SR → Prop
  | .nx τ' => ∀ σ' F' H', Grow M F H F' H' → SRel K M F' H' σ' τ' → D.nx σ' H'
  | .bk τ' => ∀ σ' F' H', Grow M F H F' H' → SRel K M F' H' σ' τ' → D.bk σ' H'
  | .ct τ' => ∀ σ' F' H', Grow M F H F' H' → SRel K M F' H' σ' τ' → D.ct σ' H'
  | .rt (.d z) τ' => ∀ v σ' F' H', Grow M F H F' H' → SRel K M F' H' σ' τ' → Rep K F' v z → D.rt v H'
  | .rt (.o z) τ' => ∀ v σ' F' H', Grow M F H F' H' → SRel K M F' H' σ' τ' → OwnR K M F' H' σ' τ' v z → D.rt v H'
  | .exc x τ' => ∀ σ' F' H', Grow M F H F' H' → SRel K M F' H' σ' τ' → ∀ dd, XD K px F' x dd → W (.ref (px.cls x.c)) dd σ' H'
  | .stuck => False
def rdS (K : PySem.W.Frag) (px : PX) (W : WX) (f : T → SR) : TS := fun D σ H => ∃ M F τ, SRel K M F H σ τ ∧ SPost K px W M F H D (f τ)
def JS (px : PX) (W : WX) (X : Cx) (st : Stmt) (f : T → SR) : Prop := PS X st (rdS X.K px W f)
def JSs (px : PX) (W : WX) (X : Cx) (st : List Stmt) (f : T → SR) : Prop := PSs X st (rdS X.K px W f)
theorem PS.imp {X : Cx} {st : Stmt} {t t' : TS} (h : PS X st t) (i : ∀ D σ H, t' D σ H → t D σ H) : PS X st t' := ⟨fun pins s σ H D I q => h.run pins s σ H D I (i _ _ _ q)⟩
theorem PSs.imp {X : Cx} {st : List Stmt} {t t' : TS} (h : PSs X st t) (i : ∀ D σ H, t' D σ H → t D σ H) : PSs X st t' := ⟨fun pins s σ H D I q => h.run pins s σ H D I (i _ _ _ q)⟩
section
variable {K : PySem.W.Frag} {px : PX} {W : WX} {M : MS} {F H F1 H1 : Hp} {σ : St} {τ : T} {D : Ends}
theorem SPost.from {m : SR} (p : SPost K px W M F H D m) (g : Grow M F H F1 H1) : SPost K px W M F1 H1 D m := by
  cases m with
  | rt r t => cases r with
    | d z => exact fun v σ' F' H' g' s r => p v σ' F' H' (g.trans g') s r
    | o z => exact fun v σ' F' H' g' s r => p v σ' F' H' (g.trans g') s r
  | stuck => exact p
  | _ => exact fun σ' F' H' g' s => p σ' F' H' (g.trans g') s
/-- an expression, then the rest -/
theorem SPost.bind {α : Type} {m : Rs α} {k : α → T → SR} (p : SPost K px W M F H D (m.s k)) : Post K px W M F H σ m (fun a τ' F' H' => SPost K px W M F' H' D (k a τ')) := by
  cases m with
  | ok a t => exact fun F' H' g s => SPost.from p g
  | exc x t => exact fun F' H' g s => p σ F' H' g s
  | stuck => exact p
theorem rdE_s {fa : T → Rs U.D} {k : U.D → T → SR} {Q : VK} (s : SRel K M F H σ τ) (p : SPost K px W M F H D ((fa τ).s k))
    (h : ∀ d τ1 F1 H1 v, Grow M F H F1 H1 → SRel K M F1 H1 σ τ1 → Rep K F1 v d → SPost K px W M F1 H1 D (k d τ1) → Q v H1) : rdE K px W fa σ H Q :=
  ⟨M, F, τ, s, p.bind.imp fun d τ1 F1 H1 g s1 q v r => h d τ1 F1 H1 v g s1 r q⟩
theorem rdT_s {fa : T → Rs Bool} {k : Bool → T → SR} {Q : Bool → Hp → Prop} (s : SRel K M F H σ τ) (p : SPost K px W M F H D ((fa τ).s k))
    (h : ∀ d τ1 F1 H1, Grow M F H F1 H1 → SRel K M F1 H1 σ τ1 → SPost K px W M F1 H1 D (k d τ1) → Q d H1) : rdT K px W fa σ H Q :=
  ⟨M, F, τ, s, p.bind.imp fun d τ1 F1 H1 g s1 q => h d τ1 F1 H1 g s1 q⟩
theorem rdX_s {fa : T → Rs PR} {k : PR → T → SR} {Q : VK} (s : SRel K M F H σ τ) (p : SPost K px W M F H D ((fa τ).s k))
    (h : ∀ r τ1 F1 H1 v, Grow M F H F1 H1 → SRel K M F1 H1 σ τ1 → (match r with | .d z => Rep K F1 v z | .o z => OwnR K M F1 H1 σ τ1 v z) → SPost K px W M F1 H1 D (k r τ1) → Q v H1) : rdX K px W fa σ H Q :=
  ⟨M, F, τ, s, p.bind.imp fun r τ1 F1 H1 g s1 q => by
    cases r with
    | d z => exact fun v rv => h (.d z) τ1 F1 H1 v g s1 rv q
    | o z => exact fun v rv => h (.o z) τ1 F1 H1 v g s1 rv q⟩
end
def sNext : T → SR := fun τ => .nx τ
def SR.then (m : SR) (g : T → SR) : SR := match m with
  | .nx t => g t
  | m => m
def sSeq (f g : T → SR) : T → SR := fun τ => (f τ).then g
section
variable {px : PX} {W : WX} {X : Cx} {pos : Pos} {st : Stmt} {rest : List Stmt} {f g : T → SR}
theorem jss_nil : JSs px W X [] sNext := PSs.imp pss_nil fun D σ H ⟨M, F, τ, s, p⟩ => p σ F H .refl s
theorem SPost.imp {K : PySem.W.Frag} {M : MS} {F H : Hp} {D D' : Ends} {m : SR} (p : SPost K px W M F H D m) (hn : ∀ τ', m = .nx τ' → ∀ σ' F' H', Grow M F H F' H' → SRel K M F' H' σ' τ' → D.nx σ' H' → D'.nx σ' H')
    (hr : ∀ v H', D.rt v H' → D'.rt v H') (hb : ∀ σ' H', D.bk σ' H' → D'.bk σ' H') (hc : ∀ σ' H', D.ct σ' H' → D'.ct σ' H') : SPost K px W M F H D' m := by
  cases m with
  | nx t => exact fun σ' F' H' g s => hn t rfl σ' F' H' g s (p σ' F' H' g s)
  | bk t => exact fun σ' F' H' g s => hb _ _ (p σ' F' H' g s)
  | ct t => exact fun σ' F' H' g s => hc _ _ (p σ' F' H' g s)
  | rt r t => cases r with
    | d z => exact fun v σ' F' H' g s r => hr _ _ (p v σ' F' H' g s r)
    | o z => exact fun v σ' F' H' g s r => hr _ _ (p v σ' F' H' g s r)
  | exc x t => exact p
  | stuck => exact p
theorem jss_cons (h1 : JS px W X st f) (h2 : JSs px W X rest g) : JSs px W X (st :: rest) (sSeq f g) := by
  refine PSs.imp (pss_cons h1 h2) fun D σ H ⟨M, F, τ, s, p⟩ => ⟨M, F, τ, s, ?_⟩
  unfold sSeq at p
  cases e : f τ with
  | nx t =>
    rw [e] at p
    exact fun σ' F' H' g' s' => ⟨M, F', t, s', SPost.from p g'⟩
  | rt r t => rw [e] at p; cases r <;> exact p
  | bk t => rw [e] at p; exact p
  | ct t => rw [e] at p; exact p
  | exc x t => rw [e] at p; exact p
  | stuck => rw [e] at p; exact p
theorem jss_one (h1 : JS px W X st f) : JSs px W X [st] f := pss_one h1
theorem js_pass : JS px W X (.Pass pos) sNext := PS.imp ps_pass fun D σ H ⟨M, F, τ, s, p⟩ => p σ F H .refl s
theorem js_break : JS px W X (.Break pos) (fun τ => .bk τ) := PS.imp ps_break fun D σ H ⟨M, F, τ, s, p⟩ => p σ F H .refl s
theorem js_cont : JS px W X (.Continue pos) (fun τ => .ct τ) := PS.imp ps_continue fun D σ H ⟨M, F, τ, s, p⟩ => p σ F H .refl s
/-- an expression whose value is dropped -/
def sDrop (f : T → Rs PR) : T → SR := fun τ => (f τ).s fun _ τ1 => .nx τ1
theorem js_expr {e : Expr} {f : T → Rs PR} (h : JX px W X e f) (hs : swapsWith e none pos.line X.env = pure false) : JS px W X (.Expr e pos) (sDrop f) :=
  PS.imp (ps_expr h hs) fun D σ H ⟨M, F, τ, s, p⟩ => rdX_s s p fun r τ1 F1 H1 v g1 s1 rv q => q σ F1 H1 .refl s1
def sRet (f : T → Rs PR) : T → SR := fun τ => (f τ).s fun r τ1 => .rt r τ1
theorem js_ret {e : Expr} {f : T → Rs PR} (h : JX px W X e f) : JS px W X (.Return (some e) pos) (sRet f) :=
  PS.imp (ps_ret h) fun D σ H ⟨M, F, τ, s, p⟩ => rdX_s s p fun r τ1 F1 H1 v g1 s1 rv q => by
    cases r with
    | d z => exact q v σ F1 H1 .refl s1 rv
    | o z => exact q v σ F1 H1 .refl s1 rv
/-- an owned slot handed back -/
def sRetO (i : Nat) : T → SR := fun τ => match τ[i]? with
  | some (.own o) => .rt (.o o) (τ.set i .no)
  | _ => .stuck
theorem js_retO {x : Str} {xp : Pos} {i : Nat} (h : PE X (.Name x xp) (tVar i)) : JS px W X (.Return (some (.Name x xp)) pos) (sRetO i) :=
  PS.imp (ps_ret h) fun D σ H ⟨M, F, τ, s, p⟩ => by
    unfold sRetO at p
    cases e : τ[i]? with
    | none => rw [e] at p; exact p.elim
    | some sl =>
      rw [e] at p
      cases sl <;> first | exact p.elim | skip
      obtain ⟨a, hv, ow⟩ := s.own_at e rfl
      exact ⟨_, hv, p _ σ F H .refl (s.drop i) ow⟩
theorem js_ret0 : JS px W X (.Return none pos) (fun τ => .rt (.d .non) τ) := PS.imp ps_retN fun D σ H ⟨M, F, τ, s, p⟩ => p _ σ F H .refl s .non
def sIfS (t : T → Rs Bool) (f g : T → SR) : T → SR := fun τ => (t τ).s fun b τ1 => if b then f τ1 else g τ1
theorem js_if {c : Expr} {a b : List Stmt} {t : T → Rs Bool} (hc : JT px W X c t) (ha : JSs px W X a f) (hb : JSs px W X b g) : JS px W X (.If c a b pos) (sIfS t f g) :=
  PS.imp (ps_if hc ha hb) fun D σ H ⟨M, F, τ, s, p⟩ => rdT_s s p fun k τ1 F1 H1 g1 s1 q => by
    cases k with
    | true => exact ⟨M, F1, τ1, s1, q⟩
    | false => exact ⟨M, F1, τ1, s1, q⟩
/-- name = value -/
def PR.slot : PR → Sl
  | .d z => .val z
  | .o z => .own z
def putS (i : Nat) (r : PR) (τ : T) : SR := if notIo τ i then .nx (τ.set i r.slot) else .stuck
def sSet (i : Nat) (f : T → Rs PR) : T → SR := fun τ => (f τ).s fun r τ1 => putS i r τ1
theorem put_ok {K : PySem.W.Frag} {M : MS} {F H : Hp} {σ : St} {τ : T} {D : Ends} {i : Nat} {r : PR} {v : V} (s : SRel K M F H σ τ) (rv : match r with | .d z => Rep K F v z | .o z => OwnR K M F H σ τ v z) (p : SPost K px W M F H D (putS i r τ)) : D.nx (σ.set i (some v)) H := by
  unfold putS at p
  by_cases c : notIo τ i = true
  · rw [if_pos c] at p
    cases r with
    | d z => exact p _ F H .refl (s.setv c rv)
    | o z => exact p _ F H .refl (s.seto c rv)
  · rw [if_neg c] at p; exact p.elim
theorem js_asg {tg : Expr} {i : Nat} {e : Expr} {f : T → Rs PR} {te : TE} (h : PS X (.Assign [tg] e pos) (tAsg te (gName i))) (hi : ∀ σ H Q, rdX X.K px W f σ H Q → te σ H Q) : JS px W X (.Assign [tg] e pos) (sSet i f) :=
  PS.imp h fun D σ H ⟨M, F, τ, s, p⟩ => hi _ _ _ (rdX_s s p fun r τ1 F1 H1 v g1 s1 rv q => put_ok s1 rv q)
end
end U
end

section
set_option Elab.async false
set_option linter.all false
set_option maxRecDepth 100000
namespace U
open PySem PySem.Spec PyProof.Rows L2

/-! ### what is walked -/
structure Conf (K : PySem.W.Frag) (F : Hp) (J : It) (ds : List D) : Prop where
  go : ∀ i H', i < ds.length → Sub F H' → J.go i H'
  stop : ∀ H', Sub F H' → J.stop ds.length H'
  yld : ∀ (i : Nat) F' H' x H'' (d : D), ds[i]? = some d → Sub F F' → Sub F' H' → J.yld i H' x H'' → ∃ F'', New F' H' F'' H'' ∧ Rep K F'' x d
theorem Conf.mono {K : PySem.W.Frag} {F F1 : Hp} {J : It} {ds : List D} (c : Conf K F J ds) (e : Sub F F1) : Conf K F1 J ds :=
  ⟨fun i H' hi s => c.go i H' hi (e.trans s), fun H' s => c.stop H' (e.trans s), fun i F' H' x H'' d h s s' y => c.yld i F' H' x H'' d h (e.trans s) s' y⟩
def rdI (K : PySem.W.Frag) (px : PX) (W : WX) (f : T → Rs (List D)) : TI := fun σ H R => ∃ M F τ, SRel K M F H σ τ ∧ Post K px W M F H σ (f τ) fun ds _ F' H' => ∀ J, Conf K F' J ds → R J H'
def JI (px : PX) (W : WX) (X : Cx) (tg iter : Expr) (f : T → Rs (List D)) : Prop := PI X tg iter (rdI X.K px W f)
theorem PI.imp {X : Cx} {tg e : Expr} {t t' : TI} (h : PI X tg e t) (i : ∀ σ H Q, t' σ H Q → t σ H Q) : PI X tg e t' := ⟨fun pins s σ H Q I q => h.run pins s σ H Q I (i _ _ _ q)⟩
section
variable {K : PySem.W.Frag} {F H : Hp}
theorem conf_list {a : Addr} {vs : List V} {ds : List D} (h : F a = some (.lst vs)) (r : RepL K F vs ds) : Conf K F (Itl K a) ds := by
  refine ⟨fun i H' hi s => ?_, fun H' s => ⟨vs, .of (s _ _ h), by rw [r.length]; exact Nat.le_refl _⟩, fun i F' H' x H'' d e s s' y => ?_⟩
  · have hv : i < vs.length := by rw [r.length]; exact hi
    exact ⟨vs, vs[i], .of (s _ _ h), by simp [hv]⟩
  · obtain ⟨v, e1, rv⟩ := r.get e
    obtain ⟨rfl, y⟩ := y
    have := y vs (.of (s' _ _ (s _ _ h)))
    rw [e1] at this
    cases this
    exact ⟨F', .refl s', rv.mono s⟩
theorem conf_tup {a : Addr} {vs : List V} {ds : List D} (h : F a = some (.tup vs)) (r : RepL K F vs ds) : Conf K F (Itt K a) ds := by
  refine ⟨fun i H' hi s => ?_, fun H' s => ⟨vs, .of (s _ _ h), by rw [r.length]; exact Nat.le_refl _⟩, fun i F' H' x H'' d e s s' y => ?_⟩
  · have hv : i < vs.length := by rw [r.length]; exact hi
    exact ⟨vs, vs[i], .of (s _ _ h), by simp [hv]⟩
  · obtain ⟨v, e1, rv⟩ := r.get e
    obtain ⟨rfl, y⟩ := y
    have := y vs (.of (s' _ _ (s _ _ h)))
    rw [e1] at this
    cases this
    exact ⟨F', .refl s', rv.mono s⟩
theorem conf_ptp {a : Addr} {o : Obj} {vs : List V} {ds : List D} (h : F a = some (.frz o (.tup vs))) (r : RepL K F vs ds) : Conf K F (Itt K a) ds := by
  refine ⟨fun i H' hi s => ?_, fun H' s => ⟨vs, .inl (.inr ⟨o, s _ _ h⟩), by rw [r.length]; exact Nat.le_refl _⟩, fun i F' H' x H'' d e s s' y => ?_⟩
  · have hv : i < vs.length := by rw [r.length]; exact hi
    exact ⟨vs, vs[i], .inl (.inr ⟨o, s _ _ h⟩), by simp [hv]⟩
  · obtain ⟨v, e1, rv⟩ := r.get e
    obtain ⟨rfl, y⟩ := y
    have := y vs (.inl (.inr ⟨o, s' _ _ (s _ _ h)⟩))
    rw [e1] at this
    cases this
    exact ⟨F', .refl s', rv.mono s⟩
theorem conf_range {lo : Int} {n : Nat} : Conf K F (Itr lo n) ((List.range n).map fun (i : Nat) => D.int (lo + (i : Int))) := by
  refine ⟨fun i H' hi s => by show i < n; simpa using hi, fun H' s => by show n ≤ _; simp, fun i F' H' x H'' d e s s' y => ?_⟩
  obtain ⟨rfl, rfl⟩ := y
  rw [List.getElem?_map] at e
  obtain ⟨j, e1, rfl⟩ := map_some e
  have : j = i := by
    rw [List.getElem?_range] at e1
    · exact (Option.some.inj e1).symm
    · obtain ⟨h, _⟩ := List.getElem?_eq_some_iff.mp e1
      simpa using h
  subst this
  exact ⟨F', .refl s', .int _⟩
theorem conf_str {x : List Nat} : Conf K F (Its (stO x)) (x.map fun c => D.str [c]) := by
  refine ⟨fun i H' hi s => by show i < x.toArray.size; simpa using hi, fun H' s => by show x.toArray.size ≤ _; simp, fun i F' H' v H'' d e s s' y => ?_⟩
  obtain ⟨rfl, c, hc, rfl⟩ := y
  rw [List.getElem?_map] at e
  obtain ⟨j, e1, rfl⟩ := map_some e
  have hc' : x[i]? = some c := by simpa using hc
  rw [hc'] at e1
  cases e1
  exact ⟨F', .refl s', .str [c]⟩
theorem keysOf_get : ∀ {ks : List D} {l : List Key} {i : Nat} {d : D}, keysOf ks = some l → ks[i]? = some d → ∃ k, l[i]? = some k ∧ d.key = some k
  | [], _, i, d, h, e => by simp at e
  | k :: ks, _, i, d, h, e => by
    obtain ⟨k', r, h1, h2, rfl⟩ := keys_cons h
    cases i with
    | zero => simp at e; subst e; exact ⟨k', rfl, h1⟩
    | succ i => exact keysOf_get (i := i) h2 (by simpa using e)
theorem keysTOf_get : ∀ {ks : List D} {l : List (List Key)} {i : Nat} {d : D}, keysTOf ks = some l → ks[i]? = some d → ∃ k, l[i]? = some k ∧ d.keyT = some k
  | [], _, i, d, h, e => by simp at e
  | k :: ks, _, i, d, h, e => by
    obtain ⟨k', r, h1, h2, rfl⟩ := keysT_cons h
    cases i with
    | zero => simp at e; subst e; exact ⟨k', rfl, h1⟩
    | succ i => exact keysTOf_get (i := i) h2 (by simpa using e)
theorem keysOf_len : ∀ {ks : List D} {l : List Key}, keysOf ks = some l → ks.length = l.length
  | [], _, h => by cases h; rfl
  | k :: ks, _, h => by obtain ⟨k', r, h1, h2, rfl⟩ := keys_cons h; simp [keysOf_len h2]
theorem keysTOf_len : ∀ {ks : List D} {l : List (List Key)}, keysTOf ks = some l → ks.length = l.length
  | [], _, h => by cases h; rfl
  | k :: ks, _, h => by obtain ⟨k', r, h1, h2, rfl⟩ := keysT_cons h; simp [keysTOf_len h2]
theorem key_back {d : D} {k : Key} (h : d.key = some k) : Rep K F (kV k) d := by
  cases d <;> first | (cases h; done) | skip
  · cases h; exact .int _
  · cases h; exact .str _
theorem keys_back : ∀ {ds : List D} {k : List Key}, keysOf ds = some k → RepL K F (k.map kV) ds
  | [], _, h => by cases h; exact .nil
  | d :: ds, _, h => by obtain ⟨k', r, h1, h2, rfl⟩ := keys_cons h; exact .cons (key_back h1) (keys_back h2)
theorem conf_dK {a : Addr} {o : Obj} {kvs : List (Key × V)} {ks : List D} (h : F a = some (.frz o (.dK kvs))) (k : keysOf ks = some (kvs.map (·.1))) : Conf K F (Itk a o kvs) ks := by
  have hl := keysOf_len k
  rw [List.length_map] at hl
  refine ⟨fun i H' hi s => ⟨s _ _ h, by rw [← hl]; exact hi⟩, fun H' s => ⟨s _ _ h, by rw [hl]; exact Nat.le_refl _⟩, fun i F' H' x H'' d e s s' y => ?_⟩
  obtain ⟨rfl, k', v, e1, rfl⟩ := y
  obtain ⟨k2, e2, e3⟩ := keysOf_get k e
  rw [List.getElem?_map, e1] at e2
  cases e2
  exact ⟨F', .refl s', key_back e3⟩
theorem keyT_shape {d : D} {k : List Key} (h : d.keyT = some k) : ∃ ds, d = .tup ds ∧ keysOf ds = some k := by
  cases d <;> first | (cases h; done) | exact ⟨_, rfl, h⟩
end
/-- the items of a value that is walked -/
def D.items : D → Option (List D)
  | .lst ds => some ds
  | .tup ds => some ds
  | .str x => some (x.map fun c => .str [c])
  | .dct false ks _ => some ks
  | .ptp ds => some ds
  | _ => none
section
variable {px : PX} {W : WX} {X : Cx} {pos : Pos} {tg e : Expr}
theorem pi_any {te : TE} (he : PE X e te) : PI X tg e (fun σ H R => te σ H fun x H1 => (∃ a xs, x = .ref a ∧ SqL X.K H1 a xs ∧ R (Itl X.K a) H1) ∨ (∃ a xs, x = .ref a ∧ SqT X.K H1 a xs ∧ R (Itt X.K a) H1) ∨ (∃ z, x = .str z ∧ R (Its z) H1) ∨
    (∃ d o kvs, x = .ref d ∧ H1 d = some (.frz o (.dK kvs)) ∧ R (Itk d o kvs) H1)) := by
  refine ⟨fun pins s σ H R I h => thn (he.run pins s σ H _ I h) fun v s1 ⟨x, H1, I1, r1, q1⟩ => ?_⟩
  rcases q1 with ⟨a, xs, rfl, hq, q⟩ | ⟨a, xs, rfl, hq, q⟩ | ⟨z, rfl, q⟩ | ⟨d, o, kvs, rfl, hd, q⟩
  · cases r1
    obtain ⟨its, rv, p, hz⟩ := I1.list hq
    exact wpAny_pyIter_list p.isList (pi_one (tk := s1.toks) I1 _ (turn_list a _) ⟨_, Heap.get?_push_size _ rfl, rfl, rfl⟩ q)
  · cases r1
    obtain ⟨its, rv, p, hz⟩ := I1.tuple hq
    exact wpAny_pyIter_tuple (show s1.heap.IsTuple a its.toArray from p) (pi_one (tk := s1.toks) I1 _ (turn_tuple a _) ⟨_, Heap.get?_push_size _ rfl, rfl, rfl⟩ q)
  · obtain ⟨t, rfl⟩ := r1
    cases ha : z.cps.all (· < 128)
    · exact wpAny_pyIter_wide ha (pi_one (tk := s1.toks) I1 _ (turn_str _ z t "str_iterator" (.inr rfl)) ⟨_, Heap.get?_push_size _ rfl, rfl, rfl⟩ q)
    · exact wpAny_pyIter_ascii ha (pi_one (tk := s1.toks) I1 _ (turn_str _ z t "str_ascii_iterator" (.inl rfl)) ⟨_, Heap.get?_push_size _ rfl, rfl, rfl⟩ q)
  · cases r1
    obtain ⟨hs, hgd, hx, es, ep, vs, hdt, hsz, kv, hm⟩ := I1.frzK hd
    refine iter_keys hs hgd hx hdt (pi_one (tk := s1.toks) I1 _ (turn_keys _ hdt) ⟨_, Heap.get?_push_size _ rfl, rfl, ?_⟩ q)
    rw [hsz] <;> rfl
def sItems (f : T → Rs D) : T → Rs (List D) := fun τ => (f τ).bind fun d τ1 => match d.items with
  | some ds => .ok ds τ1
  | none => .stuck
theorem ji_any {f : T → Rs D} (h : JE px W X e f) : JI px W X tg e (sItems f) := by
  refine PI.imp (pi_any h) fun σ H R ⟨M, F, τ, s, p⟩ => rdE_bind s p fun d τ1 F1 H1 v g1 s1 rv p1 => ?_
  cases d with
  | lst ds =>
    cases rv with
    | lst h r => exact .inl ⟨_, _, rfl, .of (s1.sub _ _ h), p1 F1 H1 .refl s1 _ (conf_list h r)⟩
  | tup ds =>
    cases rv with
    | tup h r => exact .inr (.inl ⟨_, _, rfl, .of (s1.sub _ _ h), p1 F1 H1 .refl s1 _ (conf_tup h r)⟩)
  | ptp ds =>
    cases rv with
    | ptp h k r => exact .inr (.inl ⟨_, _, rfl, .inl (.inr ⟨_, s1.sub _ _ h⟩), p1 F1 H1 .refl s1 _ (conf_ptp h r)⟩)
  | str x =>
    cases rv
    exact .inr (.inr (.inl ⟨_, rfl, p1 F1 H1 .refl s1 _ conf_str⟩))
  | dct t ks vs =>
    cases rv with
    | dK h k r => exact .inr (.inr (.inr ⟨_, _, _, rfl, s1.sub _ _ h, p1 F1 H1 .refl s1 _ (conf_dK h k)⟩))
    | dT h k r => exact p1.elim
  | _ => exact p1.elim
/-- range(n), range(a, b) -/
def rng (lo : Int) (n : Nat) : List D := (List.range n).map fun (i : Nat) => D.int (lo + (i : Int))
def sRng1 (f : T → Rs (List D)) : T → Rs (List D) := fun τ => (f τ).bind fun ds τ1 => match ds with
  | [.int j] => if j.natAbs < 2 ^ 62 then .ok (rng 0 j.toNat) τ1 else .stuck
  | _ => .stuck
def sRng2 (f : T → Rs (List D)) : T → Rs (List D) := fun τ => (f τ).bind fun ds τ1 => match ds with
  | [.int i, .int j] => if i.natAbs < 2 ^ 62 ∧ j.natAbs < 2 ^ 62 then .ok (rng i (j - i).toNat) τ1 else .stuck
  | _ => .stuck
theorem ji_range1 {a : Expr} {p : Pos} {f : T → Rs (List D)} (hg : Gl X "range") (hm : X.mg "range" = none) (ha : JA px W X [a] f) (hs : starEach [a] X.env = [(false, eval a X.env)]) : JI px W X tg (.Call (.Name "range" p) [a] [] pos) (sRng1 f) := by
  refine PI.imp (pi_range1 hg hm ha hs) fun σ H R ⟨M, F, τ, s, q⟩ => rdA_bind s q fun ds τ1 F1 H1 vs g1 s1 rv p1 => ?_
  cases rv with
  | nil => exact p1.elim
  | cons h r =>
    cases h <;> first | exact p1.elim | skip
    cases r with
    | cons _ _ => exact p1.elim
    | nil =>
      rename_i j
      by_cases c : j.natAbs < 2 ^ 62
      · have p1 : Post X.K px W M F1 H1 σ (if j.natAbs < 2 ^ 62 then Rs.ok (rng 0 j.toNat) τ1 else .stuck) _ := p1
        rw [if_pos c] at p1
        exact ⟨j, rfl, by omega, by omega, p1 F1 H1 .refl s1 _ conf_range⟩
      · have p1 : Post X.K px W M F1 H1 σ (if j.natAbs < 2 ^ 62 then Rs.ok (rng 0 j.toNat) τ1 else .stuck) _ := p1
        rw [if_neg c] at p1; exact p1.elim
theorem ji_range2 {a b : Expr} {p : Pos} {f : T → Rs (List D)} (hg : Gl X "range") (hm : X.mg "range" = none) (ha : JA px W X [a, b] f) (hs : starEach [a, b] X.env = [(false, eval a X.env), (false, eval b X.env)]) (hs2 : starEach [b] X.env = [(false, eval b X.env)]) :
    JI px W X tg (.Call (.Name "range" p) [a, b] [] pos) (sRng2 f) := by
  refine PI.imp (pi_range2 hg hm ha hs hs2) fun σ H R ⟨M, F, τ, s, q⟩ => rdA_bind s q fun ds τ1 F1 H1 vs g1 s1 rv p1 => ?_
  cases rv with
  | nil => exact p1.elim
  | cons h r =>
    cases r with
    | nil => cases h <;> exact p1.elim
    | cons h2 r =>
      cases r with
      | cons _ _ => cases h <;> cases h2 <;> exact p1.elim
      | nil =>
        cases h <;> first | (cases h2 <;> exact p1.elim) | skip
        cases h2 <;> first | exact p1.elim | skip
        rename_i i j
        by_cases c : i.natAbs < 2 ^ 62 ∧ j.natAbs < 2 ^ 62
        · have p1 : Post X.K px W M F1 H1 σ (if i.natAbs < 2 ^ 62 ∧ j.natAbs < 2 ^ 62 then Rs.ok (rng i (j - i).toNat) τ1 else .stuck) _ := p1
          rw [if_pos c] at p1
          exact ⟨i, j, rfl, ⟨by omega, by omega, by omega, by omega⟩, p1 F1 H1 .refl s1 _ conf_range⟩
        · have p1 : Post X.K px W M F1 H1 σ (if i.natAbs < 2 ^ 62 ∧ j.natAbs < 2 ^ 62 then Rs.ok (rng i (j - i).toNat) τ1 else .stuck) _ := p1
          rw [if_neg c] at p1; exact p1.elim
end
end U
end

section
set_option Elab.async false
set_option linter.all false
set_option maxRecDepth 100000
namespace U
open PySem PySem.Spec PyProof.Rows L2

/-! ### targets -/
/-- only the slots gs may change -/
def OnlyAt (gs : List Nat) (σ σ' : St) : Prop := σ'.length = σ.length ∧ ∀ i, i ∉ gs → σ'[i]? = σ[i]?
theorem OnlyAt.refl (gs : List Nat) (σ : St) : OnlyAt gs σ σ := ⟨rfl, fun _ _ => rfl⟩
theorem OnlyAt.trans {gs : List Nat} {σ σ1 σ2 : St} (a : OnlyAt gs σ σ1) (b : OnlyAt gs σ1 σ2) : OnlyAt gs σ σ2 := ⟨b.1.trans a.1, fun i h => (b.2 i h).trans (a.2 i h)⟩
theorem OnlyAt.mono {gs hs : List Nat} {σ σ1 : St} (a : OnlyAt gs σ σ1) (h : ∀ i ∈ gs, i ∈ hs) : OnlyAt hs σ σ1 := ⟨a.1, fun i n => a.2 i fun z => n (h i z)⟩
theorem OnlyAt.set {gs : List Nat} {σ : St} {i : Nat} {v : Option V} (h : i ∈ gs) : OnlyAt gs σ (σ.set i v) := ⟨by simp, fun j n => List.getElem?_set_ne fun e => n (by rw [← e]; exact h)⟩
def rdG (K : PySem.W.Frag) (gs : List Nat) (g : D → T → Option T) : TG := fun v σ H Q => ∃ M F τ d τ', SRel K M F H σ τ ∧ Rep K F v d ∧ g d τ = some τ' ∧ ∀ σ', OnlyAt gs σ σ' → SRel K M F H σ' τ' → Q σ' H
def rdGs (K : PySem.W.Frag) (gs : List Nat) (g : List D → T → Option T) : TGs := fun vs σ H Q => ∃ M F τ ds τ', SRel K M F H σ τ ∧ RepL K F vs ds ∧ g ds τ = some τ' ∧ ∀ σ', OnlyAt gs σ σ' → SRel K M F H σ' τ' → Q σ' H
def JG (X : Cx) (tg : Expr) (gs : List Nat) (g : D → T → Option T) : Prop := PG X tg (rdG X.K gs g)
def JGs (X : Cx) (ts : List Expr) (gs : List Nat) (g : List D → T → Option T) : Prop := PGs X ts (rdGs X.K gs g)
theorem PG.imp {X : Cx} {tg : Expr} {t t' : TG} (h : PG X tg t) (i : ∀ v σ H Q, t' v σ H Q → t v σ H Q) : PG X tg t' := ⟨fun pins s σ H v u Q I r q => h.run pins s σ H v u Q I r (i _ _ _ _ q)⟩
theorem PGs.imp {X : Cx} {tg : List Expr} {t t' : TGs} (h : PGs X tg t) (i : ∀ v σ H Q, t' v σ H Q → t v σ H Q) : PGs X tg t' := ⟨fun pins s σ H v u Q I r q => h.run pins s σ H v u Q I r (i _ _ _ _ q)⟩
theorem PG.or {X : Cx} {tg : Expr} {t t' : TG} (h : PG X tg t) (h' : PG X tg t') : PG X tg (fun v σ H Q => t v σ H Q ∨ t' v σ H Q) := ⟨fun pins s σ H v u Q I r q => by
  rcases q with q | q
  · exact h.run pins s σ H v u Q I r q
  · exact h'.run pins s σ H v u Q I r q⟩
def gNm (i : Nat) : D → T → Option T := fun d τ => if notIo τ i then some (τ.set i (.val d)) else none
def gN0 : List D → T → Option T := fun ds τ => match ds with
  | [] => some τ
  | _ => none
def gN1 (g : D → T → Option T) (h : List D → T → Option T) : List D → T → Option T := fun ds τ => match ds with
  | d :: r => (match g d τ with | some τ1 => h r τ1 | none => none)
  | [] => none
def gTp (n : Nat) (h : List D → T → Option T) : D → T → Option T := fun d τ => match d with
  | .tup ds => if ds.length = n then h ds τ else none
  | .lst ds => if ds.length = n then h ds τ else none
  | _ => none
section
variable {X : Cx} {pos : Pos}
theorem jg_name {i : Nat} {x : Str} {gs : List Nat} (h : PG X (.Name x pos) (gName i)) (hi : i ∈ gs) : JG X (.Name x pos) gs (gNm i) :=
  PG.imp h fun v σ H Q ⟨M, F, τ, d, τ', s, r, e, q⟩ => by
    obtain ⟨c, rfl⟩ := ite_some e
    exact q _ (.set hi) (s.setv c r)
theorem jgs_nil {gs : List Nat} : JGs X [] gs gN0 := PGs.imp pgs_nil fun vs σ H Q ⟨M, F, τ, ds, τ', s, r, e, q⟩ => by
  cases ds with
  | cons _ _ => cases e
  | nil => cases r; cases e; exact ⟨rfl, q σ (.refl _ _) s⟩
theorem jgs_cons {gs : List Nat} {e : Expr} {es : List Expr} {g : D → T → Option T} {h : List D → T → Option T} (h1 : JG X e gs g) (h2 : JGs X es gs h) (hs : (assignEach (e :: es) X.env).map (·.2) = assign e X.env :: (assignEach es X.env).map (·.2)) :
    JGs X (e :: es) gs (gN1 g h) := PGs.imp (pgs_cons h1 h2 hs) fun vs σ H Q ⟨M, F, τ, ds, τ', s, r, e, q⟩ => by
  cases r with
  | nil => cases e
  | @cons v vs d ds rd rr =>
    have e : (match g d τ with | some τ1 => h ds τ1 | none => none) = some τ' := e
    cases e1 : g d τ with
    | none => rw [e1] at e; cases e
    | some τ1 =>
      rw [e1] at e
      exact ⟨v, vs, rfl, M, F, τ, d, τ1, s, rd, e1, fun σ1 o1 s1 => ⟨M, F, τ1, ds, τ', s1, rr, e, fun σ2 o2 s2 => q σ2 (o1.trans o2) s2⟩⟩
theorem jg_tup {gs : List Nat} {es : List Expr} {k n : Nat} {h : List D → T → Option T} (hc : X.calm = true) (hh : JGs X es gs h) (hn : (assignEach es X.env).length = n) (hst : (assignEach es X.env).findIdx? (·.1) = none) : JG X (.Tuple es k pos) gs (gTp n h) :=
  PG.imp (PG.or (pg_tup hc hh hn hst) (pg_unl hc hh hn hst)) fun v σ H Q ⟨M, F, τ, d, τ', s, r, e, q⟩ => by
    cases d <;> first | (cases e; done) | skip
    · rename_i ds
      have e : (if ds.length = n then h ds τ else none) = some τ' := e
      by_cases c : ds.length = n
      · rw [if_pos c] at e
        cases r with
        | tup ha ra => exact .inl ⟨_, _, rfl, .of (s.sub _ _ ha), by rw [ra.length]; exact c, M, F, τ, ds, τ', s, ra, e, q⟩
      · rw [if_neg c] at e; cases e
    · rename_i ds
      have e : (if ds.length = n then h ds τ else none) = some τ' := e
      by_cases c : ds.length = n
      · rw [if_pos c] at e
        cases r with
        | lst ha ra => exact .inr ⟨_, _, rfl, .of (s.sub _ _ ha), by rw [ra.length]; exact c, M, F, τ, ds, τ', s, ra, e, q⟩
      · rw [if_neg c] at e; cases e
end

/-! ### for -/
def forL (body : D → T → SR) : List D → T → SR
  | [], τ => .nx τ
  | d :: ds, τ => match body d τ with
    | .nx τ' => forL body ds τ'
    | .ct τ' => forL body ds τ'
    | .bk τ' => .nx τ'
    | m => m
def sBody (g : D → T → Option T) (b : T → SR) : D → T → SR := fun d τ => match g d τ with
  | some τ' => b τ'
  | none => .stuck
def sFor (it : T → Rs (List D)) (g : D → T → Option T) (b : T → SR) : T → SR := fun τ => (it τ).s fun ds τ1 => forL (sBody g b) ds τ1
section
variable {px : PX} {W : WX} {X : Cx} {pos : Pos} {tg iter : Expr} {body : List Stmt}
theorem js_for {gs : List Nat} {fi : T → Rs (List D)} {g : D → T → Option T} {b : T → SR} (hp : PassesOwn (model X.prog X.w) X.A X.env X.xe) (hc : X.calm = true) (hi : JI px W X tg iter fi) (hg : JG X tg gs g) (hb : JSs px W X body b)
    (hs : ∀ x, foldedSetIterable iter X.env x = pure x) : JS px W X (.For tg iter body [] pos) (sFor fi g b) := by
  refine PS.imp (ps_for hp hc hi hg hb hs) fun D σ H ⟨M, F, τ, s, p⟩ => ⟨M, F, τ, s, p.bind.imp fun ds τ1 F1 H1 g1 s1 p1 J cf => ?_⟩
  refine ⟨fun i m σ' H' => ∃ F' τ', m = ds.length - i ∧ i ≤ ds.length ∧ Sub F1 F' ∧ SRel X.K M F' H' σ' τ' ∧ SPost X.K px W M F' H' D (forL (sBody g b) (ds.drop i) τ'),
    ⟨ds.length, F1, τ1, by simp, Nat.zero_le _, Sub.refl _, s1, p1⟩, ?_⟩
  rintro i m σ' H' ⟨F', τ', rfl, hi, sf, s', p'⟩
  by_cases hlt : i < ds.length
  · refine .inr ⟨cf.go i H' hlt (sf.trans s'.sub), fun σ3 H3 => ∃ F3 τ3, Sub F1 F3 ∧ SRel X.K M F3 H3 σ3 τ3 ∧ SPost X.K px W M F3 H3 D (forL (sBody g b) (ds.drop (i + 1)) τ3), fun σ3 H3 ⟨F3, τ3, a1, a2, a3⟩ => ⟨ds.length - (i + 1), by omega, F3, τ3, rfl, hlt, a1, a2, a3⟩, fun x H2 y => ?_⟩
    have hd : ds[i]? = some ds[i] := by simp [hlt]
    obtain ⟨F2, n2, r2⟩ := cf.yld i F' H' x H2 _ hd sf s'.sub y
    have s2 := n2.srel s'
    rw [List.drop_eq_getElem_cons hlt] at p'
    have p2 := SPost.from p' (n2.grow (M := M))
    unfold forL at p2
    cases eg : g ds[i] τ' with
    | none => simp only [sBody, eg] at p2; exact p2.elim
    | some τ2 =>
      simp only [sBody, eg] at p2
      refine ⟨M, F2, τ', ds[i], τ2, s2, r2, eg, fun σ2 o2 s2' => ⟨M, F2, τ2, s2', ?_⟩⟩
      have sf2 : Sub F1 F2 := sf.trans n2.frz
      cases eb : b τ2 with
      | nx t => simp only [eb] at p2; exact fun σ3 F3 H3 g3 s3 => ⟨F3, t, sf2.trans g3.frz, s3, SPost.from p2 g3⟩
      | ct t => simp only [eb] at p2; exact fun σ3 F3 H3 g3 s3 => ⟨F3, t, sf2.trans g3.frz, s3, SPost.from p2 g3⟩
      | bk t => simp only [eb] at p2; exact p2
      | rt r t => simp only [eb] at p2; cases r <;> exact p2
      | exc x t => simp only [eb] at p2; exact p2
      | stuck => simp only [eb] at p2; exact p2.elim
  · have e : i = ds.length := by omega
    subst e
    rw [List.drop_length] at p'
    exact .inl ⟨cf.stop H' (sf.trans s'.sub), p' σ' F' H' .refl s'⟩

/-! ### while -/
def whileL (t : T → Rs Bool) (b : T → SR) : Nat → T → SR
  | 0, _ => .stuck
  | n + 1, τ => match t τ with
    | .ok true τ1 => (match b τ1 with
      | .nx τ' => whileL t b n τ'
      | .ct τ' => whileL t b n τ'
      | .bk τ' => .nx τ'
      | m => m)
    | .ok false τ1 => .nx τ1
    | .exc x τ1 => .exc x τ1
    | .stuck => .stuck
def fuel : Nat := 100000
def sWhile (t : T → Rs Bool) (b : T → SR) : T → SR := fun τ => whileL t b fuel τ
theorem js_while {c : Expr} {t : T → Rs Bool} {b : T → SR} (hp : PassesOwn (model X.prog X.w) X.A X.env X.xe) (hc : JT px W X c t) (hb : JSs px W X body b) : JS px W X (.While c body [] pos) (sWhile t b) := by
  refine PS.imp (ps_while hp hc hb) fun D σ H ⟨M, F, τ, s, p⟩ => ?_
  refine ⟨fun m σ' H' => ∃ F' τ', SRel X.K M F' H' σ' τ' ∧ SPost X.K px W M F' H' D (whileL t b m τ'), ⟨fuel, F, τ, s, p⟩, ?_⟩
  rintro m σ' H' ⟨F', τ', s', p'⟩
  cases m with
  | zero => exact p'.elim
  | succ n =>
    refine ⟨M, F', τ', s', ?_⟩
    unfold whileL at p'
    cases et : t τ' with
    | stuck => simp only [et] at p'; exact p'.elim
    | exc x τ1 => simp only [et] at p'; exact fun F1 H1 g1 s1 => p' _ F1 H1 g1 s1
    | ok k τ1 =>
      cases k with
      | false => simp only [et] at p'; exact fun F1 H1 g1 s1 => by show (if false = true then _ else _); rw [if_neg Bool.false_ne_true]; exact p' _ F1 H1 g1 s1
      | true =>
        simp only [et] at p'
        intro F1 H1 g1 s1
        show (if true = true then _ else _)
        rw [if_pos rfl]
        refine ⟨fun σ3 H3 => ∃ F3 τ3, SRel X.K M F3 H3 σ3 τ3 ∧ SPost X.K px W M F3 H3 D (whileL t b n τ3), fun σ3 H3 ⟨F3, τ3, a2, a3⟩ => ⟨n, Nat.lt_succ_self _, F3, τ3, a2, a3⟩, M, F1, τ1, s1, ?_⟩
        have p2 := SPost.from p' g1
        cases eb : b τ1 with
        | nx t => simp only [eb] at p2; exact fun σ3 F3 H3 g3 s3 => ⟨F3, t, s3, SPost.from p2 g3⟩
        | ct t => simp only [eb] at p2; exact fun σ3 F3 H3 g3 s3 => ⟨F3, t, s3, SPost.from p2 g3⟩
        | bk t => simp only [eb] at p2; exact p2
        | rt r t => simp only [eb] at p2; cases r <;> exact p2
        | exc x t => simp only [eb] at p2; exact p2
        | stuck => simp only [eb] at p2; exact p2.elim
end
end U
end

section
set_option Elab.async false
set_option linter.all false
set_option maxRecDepth 100000
namespace U
open PySem PySem.Spec PyProof.Rows L2

/-! ### comprehensions -/
theorem SRel.revive {K : PySem.W.Frag} {M : MS} {F H : Hp} {σ : St} {τ : T} {i : Nat} {v : V} {d : D} (s : SRel K M F H σ (τ.set i .no)) (hv : σ[i]? = some (some v)) (r : Rep K F v d) : SRel K M F H σ (τ.set i (.val d)) := by
  have at_ : ∀ {j : Nat} {sl : Sl}, (τ.set i (.val d))[j]? = some sl → sl ≠ .val d ∨ j ≠ i → j ≠ i ∧ (τ.set i .no)[j]? = some sl := fun {j sl} e n => by
    rcases get_set e with ⟨rfl, q, _⟩ | ⟨q, e⟩
    · rcases n with n | n
      · exact absurd q n
      · exact absurd rfl n
    · exact ⟨q, by rw [List.getElem?_set_ne (Ne.symm q)]; exact e⟩
  refine ⟨by simpa using s.len, s.up, s.sub, fun j d' e => ?_, fun j sl ov e1 e2 => ?_, fun j k sl tl b e1 m1 e2 m2 f1 f2 => ?_, fun j o e => ?_⟩
  · by_cases c : j = i
    · subst c
      rcases get_set e with ⟨_, q, _⟩ | ⟨q, _⟩
      · cases q; exact ⟨v, hv, r⟩
      · exact absurd rfl q
    · exact s.val j d' (at_ e (.inr c)).2
  · exact s.own j sl ov (at_ e1 (.inl fun z => by subst z; cases e2)).2 e2
  · exact s.apart j k sl tl b (at_ e1 (.inl fun z => by subst z; exact m1 rfl)).2 m1 (at_ e2 (.inl fun z => by subst z; exact m2 rfl)).2 m2 f1 f2
  · exact s.io j o (at_ e (.inl fun z => nomatch z)).2
def wipeT (τ : T) : List Nat → T
  | [] => τ
  | v :: vs => (wipeT τ vs).set v .no
section
variable {K : PySem.W.Frag} {px : PX} {W : WX} {M : MS} {F H F1 H1 : Hp} {σ : St} {τ : T}
theorem SRel.none1 (s : SRel K M F H σ τ) (i : Nat) : SRel K M F H (σ.set i none) (τ.set i .no) := by
  have s' := s.drop i
  have ne : ∀ {j : Nat} {sl : Sl}, (τ.set i .no)[j]? = some sl → sl ≠ .no → (σ.set i none)[j]? = σ[j]? := fun {j sl} e n => by
    rcases get_set e with ⟨rfl, q, _⟩ | ⟨q, _⟩
    · exact absurd q n
    · exact List.getElem?_set_ne (Ne.symm q)
  refine ⟨by simpa using s.len, s.up, s.sub, fun j d e => ?_, fun j sl ov e1 e2 => ?_, fun j k sl tl b e1 m1 e2 m2 f1 f2 => ?_, fun j o e => ?_⟩
  · rw [ne e (fun z => nomatch z)]; exact s'.val j d e
  · rw [ne e1 (fun z => by subst z; cases e2)]; exact s'.own j sl ov e1 e2
  · rw [ne e1 (fun z => by subst z; exact m1 rfl)] at f1
    rw [ne e2 (fun z => by subst z; exact m2 rfl)] at f2
    exact s'.apart j k sl tl b e1 m1 e2 m2 f1 f2
  · rw [ne e (fun z => nomatch z)]; exact s'.io j o e
theorem SRel.wiped (s : SRel K M F H σ τ) : ∀ vs : List Nat, SRel K M F H (wipe σ vs) (wipeT τ vs)
  | [] => s
  | v :: vs => (s.wiped vs).none1 v
theorem wipeT_length (τ : T) : ∀ vs : List Nat, (wipeT τ vs).length = τ.length
  | [] => rfl
  | v :: vs => by unfold wipeT; rw [List.length_set, wipeT_length τ vs]
theorem wipeT_get {τ : T} {i : Nat} {sl : Sl} : ∀ {vs : List Nat}, (wipeT τ vs)[i]? = some sl → sl ≠ .no → i ∉ vs
  | [], _, _ => by simp
  | v :: vs, h, n => by
    unfold wipeT at h
    rcases get_set h with ⟨rfl, q, _⟩ | ⟨q, h⟩
    · exact absurd q n
    · simp only [List.mem_cons, not_or]
      exact ⟨q, wipeT_get h n⟩
/-- back to the def's own slots -/
theorem SRel.unwipe {vs : List Nat} {τ' : T} (s : SRel K M F H (wipe σ vs) τ') (hw : ∀ (i : Nat) (sl : Sl), τ'[i]? = some sl → sl ≠ .no → i ∉ vs) : SRel K M F H σ τ' := by
  have hl : (wipe σ vs).length = σ.length := wipe_length σ vs
  have at_ : ∀ {i : Nat} {sl : Sl}, τ'[i]? = some sl → sl ≠ .no → (wipe σ vs)[i]? = σ[i]? := fun {i sl} e n => wipe_out (hw i sl e n)
  refine ⟨by rw [← hl]; exact s.len, s.up, s.sub, fun j d e => ?_, fun j sl ov e1 e2 => ?_, fun j k sl tl b e1 m1 e2 m2 f1 f2 => ?_, fun j o e => ?_⟩
  · rw [← at_ e (fun z => nomatch z)]; exact s.val j d e
  · rw [← at_ e1 (fun z => by subst z; cases e2)]; exact s.own j sl ov e1 e2
  · rw [← at_ e1 (fun z => by subst z; exact m1 rfl)] at f1
    rw [← at_ e2 (fun z => by subst z; exact m2 rfl)] at f2
    exact s.apart j k sl tl b e1 m1 e2 m2 f1 f2
  · rw [← at_ e (fun z => nomatch z)]; exact s.io j o e
/-- without the list that is being made -/
def MS.but (M : MS) (a : Addr) : MS := ⟨fun b => M.m b ∧ b ≠ a, M.ad⟩
theorem SRel.but {a : Addr} {u : HO} (s : SRel K M F H σ τ) (ha : H a = some u) (hx : ∀ (i : Nat) (sl : Sl), τ[i]? = some sl → sl.mut ≠ none → σ[i]? ≠ some (some (V.ref a))) : SRel K (M.but a) F H σ τ :=
  ⟨s.len, fun b e => ⟨s.up b e, fun z => by rw [z, ha] at e; cases e⟩, s.sub, s.val, fun i sl o e1 e2 => by
    obtain ⟨b, w, h1, h2, h3, h4, h5⟩ := s.own i sl o e1 e2
    exact ⟨b, w, h1, h2, h3, ⟨h4, fun z => hx i sl e1 (by rw [e2]; exact fun z => nomatch z) (by rw [← z]; exact h1)⟩, h5⟩, s.apart, s.io⟩
theorem SRel.unbut {a : Addr} (s : SRel K (M.but a) F H σ τ) : SRel K M F H σ τ :=
  ⟨s.len, fun b e => (s.up b e).1, s.sub, s.val, fun i sl o e1 e2 => by
    obtain ⟨b, w, h1, h2, h3, h4, h5⟩ := s.own i sl o e1 e2
    exact ⟨b, w, h1, h2, h3, h4.1, h5⟩, s.apart, s.io⟩
theorem Grow.unbut {a : Addr} (g : Grow (M.but a) F H F1 H1) : Grow M F H F1 H1 := g.mono fun _ h => h.1
/-- the made list grows: a step outside of what the block may change -/
theorem but_step {a : Addr} {u u' : HO} (hu : H a = some u) (hm : M.m a) : Grow M F H F (upd H a u') := by
  refine ⟨fun b q => ?_, Sub.refl _, fun b w q n => ?_, fun b q _ _ => q⟩
  · by_cases c : b = a
    · rw [c, upd_same] at q; cases q
    · rw [upd_ne c] at q; exact q
  · rw [upd_ne (fun c => n (by rw [c]; exact hm))]; exact q
theorem SRel.butStep {a : Addr} {u u' : HO} (s : SRel K (M.but a) F H σ τ) (hu : H a = some u) (hf : F a = none) : SRel K (M.but a) F (upd H a u') σ τ := by
  refine ⟨s.len, fun b e => ?_, fun b w e => ?_, s.val, fun i sl o e1 e2 => ?_, s.apart, s.io⟩
  · by_cases c : b = a
    · rw [c, upd_same] at e; cases e
    · rw [upd_ne c] at e; exact s.up b e
  · rw [upd_ne (fun c => by rw [c, hf] at e; cases e)]; exact s.sub b w e
  · obtain ⟨b, w, h1, h2, h3, h4, h5⟩ := s.own i sl o e1 e2
    exact ⟨b, w, h1, by rw [upd_ne h4.2]; exact h2, h3, h4, h5⟩
end
def W0 : WX := fun _ _ _ _ => False
/-- one turn: what is put in, if anything; no exception leaves -/
def turnC (g : D → T → Option T) (tt : T → Rs Bool) (el : T → Rs D) (vs : List Nat) : D → T → Rs (Option D) := fun d τ => match g d τ with
  | none => .stuck
  | some τ1 => match tt τ1 with
    | .ok false τ2 => .ok none (wipeT τ2 vs)
    | .ok true τ2 => (match el τ2 with
      | .ok z τ3 => .ok (some z) (wipeT τ3 vs)
      | _ => .stuck)
    | _ => .stuck
def compL (f : D → T → Rs (Option D)) : List D → T → List D → Rs (List D)
  | [], τ, acc => .ok acc τ
  | d :: ds, τ, acc => match f d τ with
    | .ok (some z) τ1 => if acc.length < lim then compL f ds τ1 (acc ++ [z]) else .stuck
    | .ok none τ1 => compL f ds τ1 acc
    | _ => .stuck
/-- the def's own values of those names come back -/
def restT (τ1 : T) : List Nat → T → T
  | [], τ => τ
  | v :: vs, τ => match τ1[v]? with
    | some (.val d) => (restT τ1 vs τ).set v (.val d)
    | _ => restT τ1 vs τ
theorem SRel.rest {K : PySem.W.Frag} {M : MS} {F1 H1 F H : Hp} {σ : St} {τ1 τ : T} (s1 : SRel K M F1 H1 σ τ1) (e : Sub F1 F) (s : SRel K M F H σ τ) : ∀ vs : List Nat, SRel K M F H σ (restT τ1 vs τ)
  | [] => s
  | v :: vs => by
    have ih := SRel.rest s1 e s vs
    unfold restT
    cases q : τ1[v]? with
    | none => exact ih
    | some sl =>
      cases sl with
      | val d =>
        obtain ⟨x, h1, r⟩ := s1.val v d q
        exact (ih.drop v).revive h1 (r.mono e)
      | _ => exact ih
theorem rest_mut {τ1 τ : T} {i : Nat} {sl : Sl} : ∀ vs : List Nat, (restT τ1 vs τ)[i]? = some sl → sl.mut ≠ none → τ[i]? = some sl ∧ True
  | [], h, m => ⟨h, trivial⟩
  | v :: vs, h, m => by
    unfold restT at h
    cases q : τ1[v]? with
    | none => rw [q] at h; exact rest_mut vs h m
    | some s =>
      rw [q] at h
      cases s with
      | val d =>
        rcases get_set h with ⟨rfl, q, _⟩ | ⟨_, h⟩
        · subst q; exact absurd rfl m
        · exact rest_mut vs h m
      | _ => exact rest_mut vs h m
def sLc (fi : T → Rs (List D)) (g : D → T → Option T) (tt : T → Rs Bool) (el : T → Rs D) (vs : List Nat) : T → Rs PR := fun τ => (fi τ).bind fun ds τ1 => (compL (turnC g tt el vs) ds (wipeT τ1 vs) []).bind fun acc τ2 => .ok (.o (.l acc)) (restT τ1 vs τ2)
theorem lim_lt {n : Nat} (h : n < lim) : n < sizeLine := Nat.lt_of_lt_of_le h (by rw [sizeLine_eq]; decide)
/-- the tests of a clause -/
def JTs (px : PX) (W : WX) (X : Cx) (ifs : List Expr) (f : T → Rs Bool) : Prop := PTs X ifs (rdT X.K px W f)
theorem PTs.imp {X : Cx} {ifs : List Expr} {t t' : TT} (h : PTs X ifs t) (i : ∀ σ H Q, t' σ H Q → t σ H Q) : PTs X ifs t' := ⟨fun pins s σ H Q I q => h.run pins s σ H Q I (i _ _ _ q)⟩
theorem jts_nil {px : PX} {W : WX} {X : Cx} : JTs px W X [] (fun τ => .ok true τ) := PTs.imp pts_nil fun σ H Q ⟨M, F, τ, s, p⟩ => p F H .refl s
theorem jts_one {px : PX} {W : WX} {X : Cx} {c : Expr} {f : T → Rs Bool} (h : JT px W X c f) : JTs px W X [c] f := pts_one h
/-- what compL leaves -/
theorem compL_wiped {g : D → T → Option T} {tt : T → Rs Bool} {el : T → Rs D} {vs : List Nat} : ∀ (ds : List D) (τ : T) (acc out : List D) (τ' : T), (∀ (i : Nat) (sl : Sl), τ[i]? = some sl → sl ≠ .no → i ∉ vs) →
    compL (turnC g tt el vs) ds τ acc = .ok out τ' → ∀ (i : Nat) (sl : Sl), τ'[i]? = some sl → sl ≠ .no → i ∉ vs
  | [], τ, acc, out, τ', h, e => by
    cases e; exact h
  | d :: ds, τ, acc, out, τ', h, e => by
    unfold compL at e
    cases q : turnC g tt el vs d τ with
    | stuck => rw [q] at e; cases e
    | exc x t => rw [q] at e; cases e
    | ok z t =>
      have hw : ∀ (i : Nat) (sl : Sl), t[i]? = some sl → sl ≠ .no → i ∉ vs := by
        unfold turnC at q
        cases e1 : g d τ with
        | none => rw [e1] at q; cases q
        | some τ1 =>
          simp only [e1] at q
          cases e2 : tt τ1 with
          | stuck => rw [e2] at q; cases q
          | exc x t => rw [e2] at q; cases q
          | ok b τ2 =>
            rw [e2] at q
            cases b with
            | false => cases q; exact fun i sl a b => wipeT_get a b
            | true =>
              simp only at q
              cases e3 : el τ2 with
              | stuck => rw [e3] at q; cases q
              | exc x t => rw [e3] at q; cases q
              | ok z τ3 => rw [e3] at q; cases q; exact fun i sl a b => wipeT_get a b
      cases z with
      | none => rw [q] at e; exact compL_wiped ds t acc out τ' hw e
      | some z =>
        simp only [q] at e
        by_cases c : acc.length < lim
        · rw [if_pos c] at e; exact compL_wiped ds t _ out τ' hw e
        · rw [if_neg c] at e; cases e
theorem compL_noexc {f : D → T → Rs (Option D)} : ∀ (ds : List D) (τ : T) (acc : List D) (x : Ex) (t : T), compL f ds τ acc ≠ .exc x t
  | [], τ, acc, x, t, e => by cases e
  | d :: ds, τ, acc, x, t, e => by
    unfold compL at e
    cases q : f d τ with
    | stuck => rw [q] at e; cases e
    | exc x t => rw [q] at e; cases e
    | ok z t' =>
      cases z with
      | none => rw [q] at e; exact compL_noexc ds t' acc x t e
      | some z =>
        simp only [q] at e
        by_cases c : acc.length < lim
        · rw [if_pos c] at e; exact compL_noexc ds t' _ x t e
        · rw [if_neg c] at e; cases e
section
variable {px : PX} {W : WX} {X : Cx} {pos : Pos} {tg iter elt : Expr} {ifs : List Expr} {scope : Scope} {own : List (Str × Nat)}
theorem rd_lc {fi : T → Rs (List D)} {g : D → T → Option T} {tt : T → Rs Bool} {el : T → Rs D} {σ : St} {H : Hp} {Q : VK} {K : PySem.W.Frag} {vs : List Nat} (h : rdX K px W (sLc fi g tt el vs) σ H Q) :
    tLc (rdI K px W fi) (rdG K vs g) (rdT K px W0 tt) (rdE K px W0 el) vs σ H Q := by
  obtain ⟨M, F, τ, s, p⟩ := h
  refine ⟨M, F, τ, s, p.bind.imp fun ds τ1 F1 H1 g1 s1 p1 J cf => fun A hA => ?_⟩
  cases ec : compL (turnC g tt el vs) ds (wipeT τ1 vs) [] with
  | stuck => rw [ec] at p1; exact p1.elim
  | exc x t => exact absurd ec (compL_noexc _ _ _ _ _)
  | ok out τo =>
    rw [ec] at p1
    have p1 : Post K px W M F1 H1 σ (.ok (.o (.l out)) (restT τ1 vs τo)) (RX K M σ Q) := p1
    have hwo := compL_wiped ds _ _ out τo (fun i sl a b => wipeT_get a b) ec
    have hf1 : F1 A = none := s1.new (o := .lst []) hA
    have fo := s1.fresh_own (u := .lst []) (o := .l []) hA (.l .nil)
    refine ⟨fun i m H' => ∃ F' τ' acc accV, m = ds.length - i ∧ i ≤ ds.length ∧ Sub F1 F' ∧ Grow M F1 H1 F' H' ∧ SRel K (M.but A) F' H' (wipe σ vs) τ' ∧ H' A = some (.lst accV) ∧ F' A = none ∧ RepL K F' accV acc ∧ (∀ (i : Nat) (sl : Sl), τ'[i]? = some sl → sl ≠ .no → i ∉ vs) ∧
      compL (turnC g tt el vs) (ds.drop i) τ' acc = .ok out τo, ⟨ds.length, F1, wipeT τ1 vs, [], [], by simp, Nat.zero_le _, Sub.refl _, grow_alloc hA, ?_, upd_same, hf1, .nil, fun i sl a b => wipeT_get a b, ec⟩, ?_⟩
    · refine SRel.but (u := .lst []) ((s1.alloc hA).wiped vs) upd_same fun i sl e m z => ?_
      obtain ⟨a', u, e', _, _, _, _, hx⟩ := fo
      cases e'
      have hn : i ∉ vs := wipeT_get e fun q => by subst q; exact m rfl
      have hz : σ[i]? = some (some (V.ref A)) := (wipe_some z).1
      obtain ⟨o, hm⟩ := Option.ne_none_iff_exists'.mp m
      have hs := (s1.alloc (o := .lst []) hA).wiped vs
      obtain ⟨b, w, h1, h2, h3, h4, h5⟩ := (s1.wiped vs).own i sl o e hm
      rw [h1] at z
      cases z
      rw [hA] at h2
      cases h2
    · rintro i m H' ⟨F', τ', acc, accV, rfl, hi, sf, gg, s', hA', hf', ra, hw, hc⟩
      by_cases hlt : i < ds.length
      · refine .inr ⟨cf.go i H' hlt (sf.trans s'.sub), fun H3 => ∃ F3 τ3 acc3 accV3, Sub F1 F3 ∧ Grow M F1 H1 F3 H3 ∧ SRel K (M.but A) F3 H3 (wipe σ vs) τ3 ∧ H3 A = some (.lst accV3) ∧ F3 A = none ∧ RepL K F3 accV3 acc3 ∧ (∀ (i : Nat) (sl : Sl), τ3[i]? = some sl → sl ≠ .no → i ∉ vs) ∧ compL (turnC g tt el vs) (ds.drop (i + 1)) τ3 acc3 = .ok out τo,
          fun H3 ⟨F3, τ3, c3, v3, a1, a2, a3, a4, a5, a6, a7, a8⟩ => ⟨ds.length - (i + 1), by omega, F3, τ3, c3, v3, rfl, hlt, a1, a2, a3, a4, a5, a6, a7, a8⟩, fun x H2 y => ?_⟩
        have hd : ds[i]? = some ds[i] := by simp [hlt]
        obtain ⟨F2, n2, r2⟩ := cf.yld i F' H' x H2 _ hd sf s'.sub y
        have s2 := n2.srel s'
        rw [List.drop_eq_getElem_cons hlt] at hc
        unfold compL at hc
        cases eg : g ds[i] τ' with
        | none => simp only [turnC, eg] at hc; cases hc
        | some τ2 =>
          simp only [turnC, eg] at hc
          refine ⟨M.but A, F2, τ', ds[i], τ2, s2, r2, eg, fun σ2 o2 s2' => ⟨?_, M.but A, F2, τ2, s2', ?_⟩⟩
          · apply List.ext_getElem?
            intro j
            by_cases hj : j ∈ vs
            · by_cases hl : j < σ.length
              · have e1 : ∀ σ' : St, j < σ'.length → (wipe σ' vs)[j]? = some none := fun σ' hl' => by
                  cases q : (wipe σ' vs)[j]? with
                  | none => rw [List.getElem?_eq_none_iff, wipe_length] at q; omega
                  | some v => cases v with
                    | none => rfl
                    | some v => exact absurd hj (wipe_some q).2
                have hl2 : σ2.length = σ.length := by rw [o2.1, wipe_length]
                rw [e1 σ hl, e1 σ2 (by omega)]
              · have hl2 : σ2.length = σ.length := by rw [o2.1, wipe_length]
                rw [List.getElem?_eq_none (by rw [wipe_length]; omega), List.getElem?_eq_none (by rw [wipe_length]; omega)]
            · rw [wipe_out hj, o2.2 j hj]
          · cases et : tt τ2 with
            | stuck => simp only [et] at hc; cases hc
            | exc x t => simp only [et] at hc; cases hc
            | ok k τ3 =>
              intro F3 H3 g3 s3
              have wp2 : wipe σ2 vs = wipe σ vs := by
                apply List.ext_getElem?
                intro j
                by_cases hj : j ∈ vs
                · by_cases hl : j < σ.length
                  · have e1 : ∀ σ' : St, j < σ'.length → (wipe σ' vs)[j]? = some none := fun σ' hl' => by
                      cases q : (wipe σ' vs)[j]? with
                      | none => rw [List.getElem?_eq_none_iff, wipe_length] at q; omega
                      | some v => cases v with
                        | none => rfl
                        | some v => exact absurd hj (wipe_some q).2
                    have hl2 : σ2.length = σ.length := by rw [o2.1, wipe_length]
                    rw [e1 σ hl, e1 σ2 (by omega)]
                  · have hl2 : σ2.length = σ.length := by rw [o2.1, wipe_length]
                    rw [List.getElem?_eq_none (by rw [wipe_length]; omega), List.getElem?_eq_none (by rw [wipe_length]; omega)]
                · rw [wipe_out hj, o2.2 j hj]
              have hnA : ¬ (M.but A).m A := fun z => z.2 rfl
              have G3 : Grow M F1 H1 F3 H3 := gg.trans ((n2.grow (M := M)).trans g3.unbut)
              have hA2 : H2 A = some (.lst accV) := n2.keep _ _ hA'
              have hA3 : H3 A = some (.lst accV) := g3.keep A _ hA2 hnA
              have hf2 : F2 A = none := n2.free A hf' (by rw [hA']; exact fun z => nomatch z)
              have hf3 : F3 A = none := g3.free A hf2 (by rw [hA2]; exact fun z => nomatch z) hnA
              have ra3 : RepL K F3 accV acc := ra.mono (n2.frz.trans g3.frz)
              have sf3 : Sub F1 F3 := sf.trans (n2.frz.trans g3.frz)
              cases k with
              | false =>
                simp only [et] at hc
                show (if false = true then _ else _)
                rw [if_neg Bool.false_ne_true]
                exact ⟨F3, wipeT τ3 vs, acc, accV, sf3, G3, by rw [← wp2]; exact s3.wiped vs, hA3, hf3, ra3, fun i sl a b => wipeT_get a b, hc⟩
              | true =>
                show (if true = true then _ else _)
                rw [if_pos rfl]
                cases ee : el τ3 with
                | stuck => simp only [et, ee] at hc; cases hc
                | exc x t => simp only [et, ee] at hc; cases hc
                | ok z τ4 =>
                  simp only [et, ee] at hc
                  by_cases cl : acc.length < lim
                  · rw [if_pos cl] at hc
                    refine ⟨M.but A, F3, τ3, s3, ?_⟩
                    rw [ee]
                    intro F4 H4 g4 s4 v rv
                    have hA4 : H4 A = some (.lst accV) := g4.keep A _ hA3 hnA
                    have hf4 : F4 A = none := g4.free A hf3 (by rw [hA3]; exact fun z => nomatch z) hnA
                    have ra4 := ra3.mono g4.frz
                    refine ⟨accV, hA4, by rw [ra.length]; exact lim_lt cl, F4, wipeT τ4 vs, acc ++ [z], accV ++ [v], sf3.trans g4.frz, ?_, ?_, upd_same, hf4, ra4.append (.cons rv .nil), fun i sl a b => wipeT_get a b, hc⟩
                    · refine (G3.trans g4.unbut).trans (but_step hA4 ?_)
                      exact s1.up A hA
                    · rw [← wp2]; exact (s4.wiped vs).butStep hA4 hf4
                  · rw [if_neg cl] at hc; cases hc
      · have e : i = ds.length := by omega
        subst e
        rw [List.drop_length] at hc
        cases hc
        refine .inl ⟨cf.stop H' (sf.trans s'.sub), ?_⟩
        have s3 := s'.unbut.unwipe hw
        refine p1 F' H' gg (SRel.rest s1 sf s3 vs) _ ⟨A, _, rfl, hA', hf', s1.up A hA, .l ra, fun i sl e m z => ?_⟩
        obtain ⟨e', hn⟩ := rest_mut vs e m
        obtain ⟨o, hm⟩ := Option.ne_none_iff_exists'.mp m
        obtain ⟨b, w, h1, h2, h3, h4, h5⟩ := s'.own i sl o e' hm
        have h1' : σ[i]? = some (some (V.ref b)) := (wipe_some h1).1
        rw [h1'] at z
        cases z
        exact h4.2 rfl
theorem jx_lc {fi : T → Rs (List D)} {g : D → T → Option T} {tt : T → Rs Bool} {el : T → Rs D} (hc : X.calm = true) (hN : X.N.Nodup) (hi : JI px W X tg iter fi) (ok : BlkOk X.N X.env.scope scope own)
    (hg : ∀ (s : Shared) (H : Hp) (C : Addr) (cl : List (Str × Addr)) (fp : List Addr), JG (X.blk s H scope (compEnvC scope cl C X.env) fp) tg (own.map (·.2)) g)
    (ht : ∀ (s : Shared) (H : Hp) (C : Addr) (cl : List (Str × Addr)) (fp : List Addr), JTs px W0 (X.blk s H scope (compEnvC scope cl C X.env) fp) ifs tt)
    (he : ∀ (s : Shared) (H : Hp) (C : Addr) (cl : List (Str × Addr)) (fp : List Addr), JE px W0 (X.blk s H scope (compEnvC scope cl C X.env) fp) elt el) (hs : ∀ x, foldedSetIterable iter X.env x = pure x) :
    JX px W X (.ListComp elt [⟨tg, iter, ifs, 0⟩] scope pos) (sLc fi g tt el (own.map (·.2))) :=
  PE.imp (pe_lc (g := rdG X.K (List.map (fun x : Str × Nat => x.2) own) g) (tt := rdT X.K px W0 tt) (te := rdE X.K px W0 el) hc hN hi ok hg ht he hs) fun _ _ _ h => rd_lc h
/-- name = [..] on one line -/
theorem js_setLc {i : Nat} {y : Str} {py spos : Pos} {fi : T → Rs (List D)} {g : D → T → Option T} {tt : T → Rs Bool} {el : T → Rs D} (hc : X.calm = true) (hN : X.N.Nodup) (hy : X.N[i]? = some y) (hyl : X.env.scope.names.lookup y = some .local)
    (hsw : swapsWith (.ListComp elt [⟨tg, iter, ifs, 0⟩] scope pos) (some (.Name y py)) spos.line X.env = pure true) (hi : JI px W X tg iter fi) (ok : BlkOk X.N X.env.scope scope own)
    (hg : ∀ (s : Shared) (H : Hp) (C : Addr) (cl : List (Str × Addr)) (fp : List Addr), JG (X.blk s H scope (compEnvC scope cl C X.env) fp) tg (own.map (·.2)) g)
    (ht : ∀ (s : Shared) (H : Hp) (C : Addr) (cl : List (Str × Addr)) (fp : List Addr), JTs px W0 (X.blk s H scope (compEnvC scope cl C X.env) fp) ifs tt)
    (he : ∀ (s : Shared) (H : Hp) (C : Addr) (cl : List (Str × Addr)) (fp : List Addr), JE px W0 (X.blk s H scope (compEnvC scope cl C X.env) fp) elt el) (hs : ∀ x, foldedSetIterable iter X.env x = pure x) :
    JS px W X (.Assign [.Name y py] (.ListComp elt [⟨tg, iter, ifs, 0⟩] scope pos) spos) (sSet i (sLc fi g tt el (own.map (·.2)))) :=
  js_asg (ps_setLc (g := rdG X.K (List.map (fun x : Str × Nat => x.2) own) g) (tt := rdT X.K px W0 tt) (te := rdE X.K px W0 el) hc hN hy hyl hsw hi ok hg ht he hs) fun _ _ _ h => rd_lc h
end
end U
end

section
set_option Elab.async false
set_option linter.all false
set_option maxRecDepth 100000
namespace U
open PySem PySem.Spec PyProof.Rows L2

/-! ### enumerate(tuple) -/
set_option maxHeartbeats 1000000 in
theorem enumT_new (l : Addr) (items : Array Value) (n : Nat) (dct : Option Addr) (sl : Array (Option Value)) :
    Meets (Builtin.«enumerate.__new__» ⟨[.type "enumerate", .ref l], []⟩) (fun _ R s => s.heap.get? l = some { cls := .type "tuple", dict := dct, data := .seq items n, slots := sl } ∧
      R (.ok (.ret (.ref (s.heap.push { cls := .type "tuple_iterator", data := .fields #[.ref l, .int 0 0] }).objs.size)))
        { s with heap := (s.heap.push { cls := .type "tuple_iterator", data := .fields #[.ref l, .int 0 0] }).push { cls := .type "enumerate", data := .fields #[.none, .bool false, .ref s.heap.objs.size, rawInt 0, .none, .none] } }) :=
  .of_wp fun prog w A R s h => by
    obtain ⟨hp, g, d, tk, os⟩ := s; obtain ⟨hl, h⟩ := h
    have hs := PySem.sub_enumerate
    have hT : Heap.IsTuple (Shared.heap ⟨hp, g, d, tk, os⟩) l items := ⟨_, hl, rfl, n, rfl⟩
    wp_walk using AutoSeq1.wpAny_loadPart' hl
    refine wpAny_stack_any fun st => wpAny_pure ?_
    split
    · rename_i c _ _ _ _ _
      cases (c == Value.type "enumerate")
      · wp_walk using AutoSeq1.wpAny_loadPart' hl, wpAny_pyIter_tuple hT
        exact ⟨_, rfl, h⟩
      · wp_walk using AutoSeq1.wpAny_loadPart' hl, wpAny_pyIter_tuple hT
        exact ⟨_, rfl, h⟩
    · wp_walk using AutoSeq1.wpAny_loadPart' hl, wpAny_pyIter_tuple hT
      exact ⟨_, rfl, h⟩
theorem enumT_call {prog : Program} {w : World} {A : Around} {E : Value → Shared → Prop} {s : Shared} {l : Addr} {items : Array Value} {Q : Value → Shared → Prop} (hL : s.heap.IsTuple l items)
    (h : ∀ h', IsEnum h' (s.heap.objs.size + 1) s.heap.objs.size 0 .none → h'.IsTupleIter s.heap.objs.size l 0 → h'.objs.size = s.heap.objs.size + 2 →
      (∀ b o, s.heap.get? b = some o → h'.get? b = some o) → Q (.ref (s.heap.objs.size + 1)) { s with heap := h' }) :
    wpAny (model prog w) A (call (.type "enumerate") [.ref l]) Q E s := by
  obtain ⟨⟨c, dct, dt, sl⟩, hl, hc, n, hd⟩ := hL
  replace hc : c = .type "tuple" := hc
  replace hd : dt = .seq items n := hd
  subst hc hd
  refine callType_new F.called_enumerate (by decide) (F.typeCall_enumerate_1 _) (F.newCall_enumerate_1 _) (fun obj => F.args_object_init_2 obj _) F.entry_enumerate_new (enumT_new l items n dct sl) ⟨hl, ?_⟩
  have hz : (s.heap.push { cls := .type "tuple_iterator", data := .fields #[.ref l, .int 0 0] }).objs.size = s.heap.objs.size + 1 := Heap.size_push ..
  show _ ∧ _
  rw [hz]
  have he : IsEnum ((s.heap.push { cls := .type "tuple_iterator", data := .fields #[.ref l, .int 0 0] }).push { cls := .type "enumerate", data := .fields #[.none, .bool false, .ref s.heap.objs.size, rawInt 0, .none, .none] }) (s.heap.objs.size + 1) s.heap.objs.size 0 .none := by
    have := Heap.get?_push_size (s.heap.push { cls := .type "tuple_iterator", data := .fields #[.ref l, .int 0 0] }) (o := { cls := .type "enumerate", data := .fields #[.none, .bool false, .ref s.heap.objs.size, rawInt 0, .none, .none] }) rfl
    rw [hz] at this; exact this
  exact ⟨⟨_, he, rfl⟩, h _ he ⟨_, Heap.get?_push_of_some _ (Heap.get?_push_size _ rfl), rfl, rfl⟩ (by rw [Heap.size_push, hz]) fun b o x => Heap.get?_push_of_some _ (Heap.get?_push_of_some _ x)⟩
def IteT (K : PySem.W.Frag) (a : Addr) : It :=
  ⟨fun i H => ∃ (xs : List V) (x : V), SqT K H a xs ∧ xs[i]? = some x, fun i H v H' => ∃ T x, v = .ref T ∧ H T = none ∧ H' = upd H T (.tup [.int (i : Nat), x]) ∧ ∀ xs, SqT K H a xs → xs[i]? = some x, fun i H => ∃ xs : List V, SqT K H a xs ∧ xs.length = i⟩
theorem turn_enumT {P : Program} {w : World} {K : PySem.W.Frag} {elts : List Expr} {kk : Nat} {tpos : Pos} (a e it : Addr) (hai : a ≠ it) (hea : e ≠ a) :
    Turn P w K (.Tuple elts kk tpos) (IteT K a) [e, it] e (fun i h => (∃ old, IsEnum h e it ((i : Nat) : Int) old) ∧ h.IsTupleIter it a i ∧ e ≠ it) where
  mem := by simp
  obj := fun i h st b hb => by
    obtain ⟨⟨old, he⟩, ⟨o, ho, hc, hd⟩, _⟩ := st
    have e' : b = e ∨ b = it := by simpa using hb
    rcases e' with z | z
    · rw [z]; exact ⟨_, he, fun v q => nomatch q⟩
    · rw [z]; exact ⟨o, ho, fun v q => by rw [hd] at q; cases q⟩
  keep := fun i h h' st k => let ⟨⟨old, he⟩, hi, hne⟩ := st; ⟨⟨old, k e (by simp) _ he⟩, hi.at fun o q => k it (by simp) o q, hne⟩
  item := by
    intro X hP hw hK hc i pins s σ H E I hf st hg
    subst hP hw hK
    obtain ⟨⟨old, he⟩, hit, hne⟩ := st
    obtain ⟨xs, x, hq, hx⟩ := hg
    obtain ⟨its, rv, p, _⟩ := I.tuple hq
    obtain ⟨u, hu, ru⟩ := rv.get hx
    have hel : e < s.heap.objs.size := Heap.lt_size he
    have hil : it < s.heap.objs.size := by obtain ⟨_, q, _⟩ := hit; exact Heap.lt_size q
    have hil2 : i < its.toArray.size := by
      obtain ⟨h, _⟩ := List.getElem?_eq_some_iff.mp hu
      simpa using h
    refine wpAny_pyNext_enum_itemD (Draws.tuple (prog := X.prog) (w := X.w) (A := X.A.in1) (I.ok.hd hc) it a hai its.toArray) he ⟨hit, p⟩ hil2 hne (by simp [hne, hea]) fun y h' tk hy ho hst' hT hsz hk => ?_
    have hyu : y = u := by
      have : its.toArray[i]? = some u := by simpa using hu
      rw [this] at hy; exact (Option.some.inj hy).symm
    subst hyu
    refine ⟨_, rfl, wpAny_letOwnedTupleGo_enum (s := { s with heap := h', toks := tk + 1 }) ho fun h'' he' sb => ?_⟩
    have hT2 : h''.get? s.heap.objs.size = some { cls := .type "tuple", data := .seq #[.int i tk, y] } := (sb.2 _ (Nat.ne_of_gt hel)).trans hT
    have new : ObjOk X.prog X.w (upd H s.heap.objs.size (.tup [.int (i : Nat), x])) h'' s.heap.objs.size (.tup [.int (i : Nat), x]) :=
      ⟨by show 2 ≤ sizeLine; decide, [.int i tk, y], .cons ⟨_, rfl⟩ (.cons ru .nil), ⟨_, hT2, rfl, _, rfl⟩⟩
    have I1 : Inv X pins σ (upd H s.heap.objs.size (.tup [.int (i : Nat), x])) { s with heap := h'', toks := tk + 1 } :=
      I.turnedNew (ch := [e, it]) (fun b ob hb q => (sb.2 b (fun z => hb (by simp [z]))).trans (hk b ob (fun z => hb (by simp [z])) (fun z => hb (by simp [z])) q)) hf (Nat.le_refl _) new
    refine ⟨.ref s.heap.objs.size, _, I1, rfl, ⟨_, x, rfl, I.hok.fresh (Nat.le_refl _), rfl, fun ys hy => by rw [I.tuple_inj hy hq]; exact hx⟩, ⟨⟨y, ?_⟩, hst'.1.at fun o q => (sb.2 it (Ne.symm hne)).trans q, hne⟩, fun b hb => ?_⟩
    · have e1 : ((i + 1 : Nat) : Int) = (i : Int) + 1 := by omega
      rw [e1]; exact he'
    · have hb' : b < s.heap.objs.size := by
        have e' : b = e ∨ b = it := by simpa using hb
        rcases e' with z | z
        · rw [z]; exact hel
        · rw [z]; exact hil
      rw [upd_ne (Nat.ne_of_lt hb')]
      exact (hf b hb).1
  done := by
    intro X hP hw hK hc i pins s σ H E I hf st hg
    subst hP hw hK
    obtain ⟨⟨old, he⟩, hit, hne⟩ := st
    obtain ⟨xs, hq, hx⟩ := hg
    obtain ⟨its, rv, p, _⟩ := I.tuple hq
    obtain ⟨f0, f1, f2, f3, f4, f5⟩ := hf it (by simp)
    have hl := rv.length
    have hs : i = its.toArray.size := by simp; omega
    subst hs
    exact wpAny_pyNext_enum_endD (Draws.tuple (prog := X.prog) (w := X.w) (A := X.A.in1) (I.ok.hd hc) it a hai its.toArray) he ⟨hit, p⟩ fun h' eb => ⟨rfl, I.turned (t' := s.toks) (fun b o hb q => eb b o hb q) f0 f1 f3 f4 f5⟩
  self := fun A i s Q E st h => let ⟨⟨_, he⟩, _⟩ := st; wpAny_pyIter_enum he h
/-! ### enumerate(text) -/
def IteS (z : Str) : It :=
  ⟨fun i _ => i < z.cps.size, fun i H v H' => ∃ T c, v = .ref T ∧ H T = none ∧ H' = upd H T (.tup [.int (i : Nat), .str ⟨#[c]⟩]) ∧ z.cps[i]? = some c, fun i _ => z.cps.size = i⟩
theorem turn_enumS {P : Program} {w : World} {K : PySem.W.Frag} {elts : List Expr} {kk : Nat} {tpos : Pos} (z : Str) (t : Tok) (e it : Addr) :
    Turn P w K (.Tuple elts kk tpos) (IteS z) [e, it] e (fun i h => (∃ old, IsEnum h e it ((i : Nat) : Int) old) ∧ h.IsStrIter it (strIterType z) z t i ∧ e ≠ it) where
  mem := by simp
  obj := fun i h st b hb => by
    obtain ⟨⟨old, he⟩, ⟨o, ho, hc, hd⟩, _⟩ := st
    have e' : b = e ∨ b = it := by simpa using hb
    rcases e' with q | q
    · rw [q]; exact ⟨_, he, fun v q => nomatch q⟩
    · rw [q]; exact ⟨o, ho, fun v q => by rw [hd] at q; cases q⟩
  keep := fun i h h' st k => let ⟨⟨old, he⟩, hi, hne⟩ := st; ⟨⟨old, k e (by simp) _ he⟩, (let ⟨o, ho, hc, hd⟩ := hi; ⟨o, k it (by simp) o ho, hc, hd⟩), hne⟩
  item := by
    intro X hP hw hK hc i pins s σ H E I hf st hg
    subst hP hw hK
    obtain ⟨⟨old, he⟩, hit, hne⟩ := st
    have hg : i < z.cps.size := hg
    have hel : e < s.heap.objs.size := Heap.lt_size he
    have hil : it < s.heap.objs.size := by obtain ⟨_, q, _⟩ := hit; exact Heap.lt_size q
    refine wpAny_pyNext_enum_itemD (Draws.text (prog := X.prog) (w := X.w) (A := X.A.in1) (I.ok.hd hc) it z t) he hit hg hne (by simp [hne]) fun y h' tk hy ho hst' hT hsz hk => ?_
    obtain ⟨c, u, hcc, rfl⟩ := hy
    refine ⟨_, rfl, wpAny_letOwnedTupleGo_enum (s := { s with heap := h', toks := tk + 1 }) ho fun h'' he' sb => ?_⟩
    have hT2 : h''.get? s.heap.objs.size = some { cls := .type "tuple", data := .seq #[.int i tk, .str ⟨#[c]⟩ u] } := (sb.2 _ (Nat.ne_of_gt hel)).trans hT
    have new : ObjOk X.prog X.w (upd H s.heap.objs.size (.tup [.int (i : Nat), .str ⟨#[c]⟩])) h'' s.heap.objs.size (.tup [.int (i : Nat), .str ⟨#[c]⟩]) :=
      ⟨by show 2 ≤ sizeLine; decide, [.int i tk, .str ⟨#[c]⟩ u], .cons ⟨_, rfl⟩ (.cons ⟨_, rfl⟩ .nil), ⟨_, hT2, rfl, _, rfl⟩⟩
    have I1 : Inv X pins σ (upd H s.heap.objs.size (.tup [.int (i : Nat), .str ⟨#[c]⟩])) { s with heap := h'', toks := tk + 1 } :=
      I.turnedNew (ch := [e, it]) (fun b ob hb q => (sb.2 b (fun z => hb (by simp [z]))).trans (hk b ob (fun z => hb (by simp [z])) (fun z => hb (by simp [z])) q)) hf (Nat.le_refl _) new
    refine ⟨.ref s.heap.objs.size, _, I1, rfl, ⟨_, c, rfl, I.hok.fresh (Nat.le_refl _), rfl, hcc⟩, ⟨⟨.str ⟨#[c]⟩ u, ?_⟩, (let ⟨o, ho, hc, hd⟩ := hst'; ⟨o, (sb.2 it (Ne.symm hne)).trans ho, hc, hd⟩), hne⟩, fun b hb => ?_⟩
    · have e1 : ((i + 1 : Nat) : Int) = (i : Int) + 1 := by omega
      rw [e1]; exact he'
    · have hb' : b < s.heap.objs.size := by
        have e' : b = e ∨ b = it := by simpa using hb
        rcases e' with q | q
        · rw [q]; exact hel
        · rw [q]; exact hil
      rw [upd_ne (Nat.ne_of_lt hb')]
      exact (hf b hb).1
  done := by
    intro X hP hw hK hc i pins s σ H E I hf st hg
    subst hP hw hK
    obtain ⟨⟨old, he⟩, hit, hne⟩ := st
    have hg : z.cps.size = i := hg
    obtain ⟨f0, f1, f2, f3, f4, f5⟩ := hf it (by simp)
    subst hg
    exact wpAny_pyNext_enum_endD (Draws.text (prog := X.prog) (w := X.w) (A := X.A.in1) (I.ok.hd hc) it z t) he hit fun h' eb => ⟨rfl, I.turned (t' := s.toks) (fun b o hb q => eb b o hb q) f0 f1 f3 f4 f5⟩
  self := fun A i s Q E st h => let ⟨⟨_, he⟩, _⟩ := st; wpAny_pyIter_enum he h
def iEnumA (K : PySem.W.Frag) (ta : TA) : TI := fun σ H R => ta σ H fun vs H1 => (∃ z, vs = [.str z] ∧ R (IteS z) H1) ∨ ∃ a xs, vs = [.ref a] ∧ ((SqL K H1 a xs ∧ R (Ite K a) H1) ∨ (SqT K H1 a xs ∧ R (IteT K a) H1))
theorem pi_enumA {X : Cx} {e : Expr} {ta : TA} {p pos tpos : Pos} {elts : List Expr} {kk : Nat} (hg : Gl X "enumerate") (hm : X.mg "enumerate" = none) (ha : PA X [e] ta) (hs : starEach [e] X.env = [(false, eval e X.env)]) :
    PI X (.Tuple elts kk tpos) (.Call (.Name "enumerate" p) [e] [] pos) (iEnumA X.K ta) := by
  refine ⟨fun pins s σ H R I h => ?_⟩
  refine Call_ (ld_blt I hg hm boot_enumerate (PyProof.Rows.callWith_type1 (thn (ha.run pos pins s σ H _ I h) fun us s1 ⟨vs, H1, I1, r1, q1⟩ => ?_) hs rfl))
  have frs : ∀ b, b ∈ [s1.heap.objs.size + 1, s1.heap.objs.size] → FpOk X pins H1 b := fun b hb => by
    have e' : b = s1.heap.objs.size + 1 ∨ b = s1.heap.objs.size := by simpa using hb
    have hle : s1.heap.objs.size ≤ b := by
      rcases e' with z | z
      · rw [z]; exact Nat.le_add_right _ _
      · rw [z]; exact Nat.le_refl _
    exact I1.fpOk hle (I1.hok.fresh hle)
  rcases q1 with ⟨z, ez, q1⟩ | ⟨a, xs, ex, q1⟩
  · subst ez
    cases r1 with
    | cons r rr =>
      cases rr
      obtain ⟨t, rfl⟩ := r
      refine call_enumerate_str fun h' he hit hsz hk => wpAny_pyIter_enum he ?_
      have I2 : Inv X pins σ H1 { s1 with heap := h' } := I1.kept (t' := s1.toks) hk
      exact ⟨s1.heap.objs.size + 1, [s1.heap.objs.size + 1, s1.heap.objs.size], _, _, H1, rfl, I2, turn_enumS z t (s1.heap.objs.size + 1) s1.heap.objs.size, ⟨⟨.none, he⟩, hit, Nat.succ_ne_self _⟩, frs, q1⟩
  subst ex
  cases r1 with
  | cons r rr =>
    cases rr
    cases r
    rcases q1 with ⟨hq, q⟩ | ⟨hq, q⟩
    · obtain ⟨its, rv, p', hz⟩ := I1.list hq
      refine call_enumerate_list p'.isList fun h' he hit hsz hk => wpAny_pyIter_enum he ?_
      have I2 : Inv X pins σ H1 { s1 with heap := h' } := I1.kept (t' := s1.toks) hk
      exact ⟨s1.heap.objs.size + 1, [s1.heap.objs.size + 1, s1.heap.objs.size], _, _, H1, rfl, I2, turn_enum a (s1.heap.objs.size + 1) s1.heap.objs.size, ⟨⟨.none, he⟩, hit, Nat.succ_ne_self _⟩, frs, q⟩
    · obtain ⟨its, rv, p', _⟩ := I1.tuple hq
      have hal : a < s1.heap.objs.size := by obtain ⟨_, z, _⟩ := id p'; exact Heap.lt_size z
      refine enumT_call (show s1.heap.IsTuple a its.toArray from p') fun h' he hit hsz hk => wpAny_pyIter_enum he ?_
      have I2 : Inv X pins σ H1 { s1 with heap := h' } := I1.kept (t' := s1.toks) hk
      exact ⟨s1.heap.objs.size + 1, [s1.heap.objs.size + 1, s1.heap.objs.size], _, _, H1, rfl, I2, turn_enumT a (s1.heap.objs.size + 1) s1.heap.objs.size (Nat.ne_of_lt hal) (Nat.ne_of_gt (Nat.lt_succ_of_lt hal)), ⟨⟨.none, he⟩, hit, Nat.succ_ne_self _⟩, frs, q⟩
/-! ### in our terms -/
def numb (k : Nat) : List D → List D
  | [] => []
  | d :: ds => .tup [.int (k : Int), d] :: numb (k + 1) ds
theorem numb_get : ∀ (ds : List D) (k i : Nat), (numb k ds)[i]? = (ds[i]?).map fun d => .tup [.int ((k + i : Nat) : Int), d]
  | [], k, i => by simp [numb]
  | d :: ds, k, 0 => by simp [numb]
  | d :: ds, k, i + 1 => by
    simp only [numb, List.getElem?_cons_succ]
    rw [numb_get ds (k + 1) i]
    congr 1; funext x
    have : k + 1 + i = k + (i + 1) := by omega
    rw [this]
theorem numb_len : ∀ (ds : List D) (k : Nat), (numb k ds).length = ds.length
  | [], k => rfl
  | d :: ds, k => by simp [numb, numb_len ds]
section
variable {K : PySem.W.Frag} {F H : Hp}
theorem pair_new {F' H' : Hp} {T : Addr} {x y : V} {d e : D} (s : Sub F' H') (hT : H' T = none) (rx : Rep K F' x d) (ry : Rep K F' y e) : ∃ F'', New F' H' F'' (upd H' T (.tup [x, y])) ∧ Rep K F'' (.ref T) (.tup [d, e]) :=
  ⟨_, .lay s hT, .tup upd_same (.cons (rx.mono (Sub.upd (none_of_sub s hT))) (.cons (ry.mono (Sub.upd (none_of_sub s hT))) .nil))⟩
theorem conf_enumL {a : Addr} {vs : List V} {ds : List D} (h : F a = some (.lst vs)) (r : RepL K F vs ds) : Conf K F (Ite K a) (numb 0 ds) := by
  refine ⟨fun i H' hi s => ?_, fun H' s => ⟨vs, .of (s _ _ h), by rw [r.length, numb_len]; exact Nat.le_refl _⟩, fun i F' H' x H'' d e s s' y => ?_⟩
  · have hv : i < vs.length := by rw [r.length]; rw [numb_len] at hi; exact hi
    exact ⟨vs, vs[i], .of (s _ _ h), by simp [hv]⟩
  · rw [numb_get] at e
    obtain ⟨d0, e0, rfl⟩ := map_some e
    obtain ⟨v, e1, rv⟩ := r.get e0
    obtain ⟨T, z, rfl, hT, rfl, y⟩ := y
    have := y vs (.of (s' _ _ (s _ _ h)))
    rw [e1] at this
    cases this
    rw [Nat.zero_add]
    exact pair_new s' hT (.int _) (rv.mono s)
theorem conf_enumT {a : Addr} {vs : List V} {ds : List D} (h : ∀ H', Sub F H' → SqT K H' a vs) (r : RepL K F vs ds) : Conf K F (IteT K a) (numb 0 ds) := by
  refine ⟨fun i H' hi s => ?_, fun H' s => ⟨vs, h _ s, by rw [r.length, numb_len]⟩, fun i F' H' x H'' d e s s' y => ?_⟩
  · have hv : i < vs.length := by rw [r.length]; rw [numb_len] at hi; exact hi
    exact ⟨vs, vs[i], h _ s, by simp [hv]⟩
  · rw [numb_get] at e
    obtain ⟨d0, e0, rfl⟩ := map_some e
    obtain ⟨v, e1, rv⟩ := r.get e0
    obtain ⟨T, z, rfl, hT, rfl, y⟩ := y
    have := y vs (h _ (s.trans s'))
    rw [e1] at this
    cases this
    rw [Nat.zero_add]
    exact pair_new s' hT (.int _) (rv.mono s)
theorem conf_enumS (x : List Nat) : Conf K F (IteS (stO x)) (numb 0 (x.map fun c => .str [c])) := by
  have sz : (stO x).cps.size = x.length := by simp [stO]
  refine ⟨fun i H' hi s => ?_, fun H' s => ?_, fun i F' H' v H'' d e s s' y => ?_⟩
  · show i < (stO x).cps.size
    rw [numb_len, List.length_map] at hi
    rw [sz]; exact hi
  · show (stO x).cps.size = _
    rw [numb_len, List.length_map, sz]
  · rw [numb_get] at e
    obtain ⟨d0, e0, rfl⟩ := map_some e
    rw [List.getElem?_map] at e0
    obtain ⟨c0, e1, rfl⟩ := map_some e0
    obtain ⟨T, c, rfl, hT, rfl, y⟩ := y
    have : x[i]? = some c := by simpa [stO] using y
    rw [e1] at this
    cases this
    rw [Nat.zero_add]
    have rs : Rep K F' (.str (stO [c0])) (.str [c0]) := .str _
    exact pair_new s' hT (.int _) rs
def zipD : List D → List D → List D
  | d :: ds, e :: es => .tup [d, e] :: zipD ds es
  | _, _ => []
theorem zipD_get : ∀ (ds es : List D) (i : Nat) (z : D), (zipD ds es)[i]? = some z → ∃ d e, ds[i]? = some d ∧ es[i]? = some e ∧ z = .tup [d, e]
  | [], es, i, z, h => by simp [zipD] at h
  | d :: ds, [], i, z, h => by simp [zipD] at h
  | d :: ds, e :: es, 0, z, h => by simp [zipD] at h; exact ⟨d, e, rfl, rfl, h.symm⟩
  | d :: ds, e :: es, i + 1, z, h => by
    simp only [zipD, List.getElem?_cons_succ] at h
    exact zipD_get ds es i z h
theorem zipD_len : ∀ (ds es : List D), (zipD ds es).length = min ds.length es.length
  | [], es => by simp [zipD]
  | d :: ds, [] => by simp [zipD]
  | d :: ds, e :: es => by simp only [zipD, List.length_cons, zipD_len ds es]; omega
theorem conf_zipL {a b : Addr} {vs ws : List V} {ds es : List D} (h : F a = some (.lst vs)) (r : RepL K F vs ds) (h' : F b = some (.lst ws)) (r' : RepL K F ws es) : Conf K F (Itz K a b) (zipD ds es) := by
  refine ⟨fun i H' hi s => ?_, fun H' s => ⟨vs, ws, .of (s _ _ h), .of (s _ _ h'), by rw [r.length, r'.length, zipD_len]; omega⟩, fun i F' H' x H'' d e s s' y => ?_⟩
  · rw [zipD_len] at hi
    have hv : i < vs.length := by rw [r.length]; omega
    have hw : i < ws.length := by rw [r'.length]; omega
    exact ⟨vs, ws, vs[i], ws[i], .of (s _ _ h), .of (s _ _ h'), by simp [hv], by simp [hw]⟩
  · obtain ⟨d0, e0, q1, q2, rfl⟩ := zipD_get _ _ _ _ e
    obtain ⟨v, e1, rv⟩ := r.get q1
    obtain ⟨w, e2, rw'⟩ := r'.get q2
    obtain ⟨T, x', y', rfl, hT, rfl, y1, y2⟩ := y
    have z1 := y1 vs (.of (s' _ _ (s _ _ h)))
    have z2 := y2 ws (.of (s' _ _ (s _ _ h')))
    rw [e1] at z1
    rw [e2] at z2
    cases z1
    cases z2
    exact pair_new s' hT (rv.mono s) (rw'.mono s)
theorem conf_zipT {a b : Addr} {vs ws : List V} {ds es : List D} (h : ∀ H', Sub F H' → SqT K H' a vs) (r : RepL K F vs ds) (h' : ∀ H', Sub F H' → SqT K H' b ws) (r' : RepL K F ws es) : Conf K F (RZ.ItzT K a b) (zipD ds es) := by
  refine ⟨fun i H' hi s => ?_, fun H' s => ⟨vs, ws, h _ s, h' _ s, by rw [r.length, r'.length, zipD_len]; omega⟩, fun i F' H' x H'' d e s s' y => ?_⟩
  · rw [zipD_len] at hi
    have hv : i < vs.length := by rw [r.length]; omega
    have hw : i < ws.length := by rw [r'.length]; omega
    exact ⟨vs, ws, vs[i], ws[i], h _ s, h' _ s, by simp [hv], by simp [hw]⟩
  · obtain ⟨d0, e0, q1, q2, rfl⟩ := zipD_get _ _ _ _ e
    obtain ⟨v, e1, rv⟩ := r.get q1
    obtain ⟨w, e2, rw'⟩ := r'.get q2
    obtain ⟨T, x', y', rfl, hT, rfl, y1, y2⟩ := y
    have z1 := y1 vs (h _ (s.trans s'))
    have z2 := y2 ws (h' _ (s.trans s'))
    rw [e1] at z1
    rw [e2] at z2
    cases z1
    cases z2
    exact pair_new s' hT (rv.mono s) (rw'.mono s)
end
section
variable {px : PX} {W : WX} {X : Cx} {pos tpos : Pos} {elts : List Expr} {kk : Nat}
def sEnum (f : T → Rs (List D)) : T → Rs (List D) := fun τ => (f τ).bind fun ds τ1 => match ds with
  | [.lst es] => .ok (numb 0 es) τ1
  | [.tup es] => .ok (numb 0 es) τ1
  | [.str x] => .ok (numb 0 (x.map fun c => .str [c])) τ1
  | [.ptp es] => .ok (numb 0 es) τ1
  | _ => .stuck
theorem ji_enum {e : Expr} {p : Pos} {f : T → Rs (List D)} (hg : Gl X "enumerate") (hm : X.mg "enumerate" = none) (ha : JA px W X [e] f) (hs : starEach [e] X.env = [(false, eval e X.env)]) : JI px W X (.Tuple elts kk tpos) (.Call (.Name "enumerate" p) [e] [] pos) (sEnum f) :=
  PI.imp (pi_enumA hg hm ha hs) fun σ H R ⟨M, F, τ, s, p⟩ => ⟨M, F, τ, s, p.bind.imp fun ds τ1 F1 H1 g1 s1 p1 vs r => by
    match ds, p1, r with
    | [.lst es], p1, .cons (.lst q r) .nil => exact .inr ⟨_, _, rfl, .inl ⟨.of (s1.sub _ _ q), p1 F1 H1 .refl s1 _ (conf_enumL q r)⟩⟩
    | [.str x], p1, .cons (.str _) .nil => exact .inl ⟨_, rfl, p1 F1 H1 .refl s1 _ (conf_enumS x)⟩
    | [.tup es], p1, .cons (.tup q r) .nil => exact .inr ⟨_, _, rfl, .inr ⟨.of (s1.sub _ _ q), p1 F1 H1 .refl s1 _ (conf_enumT (fun H' s => .of (s _ _ q)) r)⟩⟩
    | [.ptp es], p1, .cons (.ptp q k r) .nil => exact .inr ⟨_, _, rfl, .inr ⟨.inl (.inr ⟨_, s1.sub _ _ q⟩), p1 F1 H1 .refl s1 _ (conf_enumT (fun H' s => .inl (.inr ⟨_, s _ _ q⟩)) r)⟩⟩⟩
def sZip (f : T → Rs (List D)) : T → Rs (List D) := fun τ => (f τ).bind fun ds τ1 => match ds with
  | [.lst es, .lst fs] => .ok (zipD es fs) τ1
  | [.tup es, .tup fs] => .ok (zipD es fs) τ1
  | [.ptp es, .tup fs] => .ok (zipD es fs) τ1
  | [.tup es, .ptp fs] => .ok (zipD es fs) τ1
  | [.ptp es, .ptp fs] => .ok (zipD es fs) τ1
  | _ => .stuck
theorem ji_zip {e e2 : Expr} {p : Pos} {f : T → Rs (List D)} (hg : Gl X "zip") (hm : X.mg "zip" = none) (ha : JA px W X [e, e2] f) (hs : starEach [e, e2] X.env = (false, eval e X.env) :: starEach [e2] X.env) (hp : (backTo pos (starEach [e2] X.env)).any (·.1) = false) :
    JI px W X (.Tuple elts kk tpos) (.Call (.Name "zip" p) [e, e2] [] pos) (sZip f) :=
  PI.imp (RZ.pi_zipA hg hm ha hs hp) fun σ H R ⟨M, F, τ, s, p⟩ => ⟨M, F, τ, s, p.bind.imp fun ds τ1 F1 H1 g1 s1 p1 vs r => by
    match ds, p1, r with
    | [.lst es, .lst fs], p1, .cons (.lst q r) (.cons (.lst q' r') .nil) => exact ⟨_, _, _, _, rfl, .inl ⟨.of (s1.sub _ _ q), .of (s1.sub _ _ q'), p1 F1 H1 .refl s1 _ (conf_zipL q r q' r')⟩⟩
    | [.tup es, .tup fs], p1, .cons (.tup q r) (.cons (.tup q' r') .nil) => exact ⟨_, _, _, _, rfl, .inr ⟨.of (s1.sub _ _ q), .of (s1.sub _ _ q'), p1 F1 H1 .refl s1 _ (conf_zipT (fun H' s => .of (s _ _ q)) r (fun H' s => .of (s _ _ q')) r')⟩⟩
    | [.tup es, .ptp fs], p1, .cons (.tup q r) (.cons (.ptp q' _ r') .nil) => exact ⟨_, _, _, _, rfl, .inr ⟨.of (s1.sub _ _ q), .inl (.inr ⟨_, s1.sub _ _ q'⟩), p1 F1 H1 .refl s1 _ (conf_zipT (fun H' s => .of (s _ _ q)) r (fun H' s => .inl (.inr ⟨_, s _ _ q'⟩)) r')⟩⟩
    | [.ptp es, .tup fs], p1, .cons (.ptp q _ r) (.cons (.tup q' r') .nil) => exact ⟨_, _, _, _, rfl, .inr ⟨.inl (.inr ⟨_, s1.sub _ _ q⟩), .of (s1.sub _ _ q'), p1 F1 H1 .refl s1 _ (conf_zipT (fun H' s => .inl (.inr ⟨_, s _ _ q⟩)) r (fun H' s => .of (s _ _ q')) r')⟩⟩
    | [.ptp es, .ptp fs], p1, .cons (.ptp q _ r) (.cons (.ptp q' _ r') .nil) => exact ⟨_, _, _, _, rfl, .inr ⟨.inl (.inr ⟨_, s1.sub _ _ q⟩), .inl (.inr ⟨_, s1.sub _ _ q'⟩), p1 F1 H1 .refl s1 _ (conf_zipT (fun H' s => .inl (.inr ⟨_, s _ _ q⟩)) r (fun H' s => .inl (.inr ⟨_, s _ _ q'⟩)) r')⟩⟩⟩
end
end U
end

section
set_option Elab.async false
set_option linter.all false
set_option maxRecDepth 100000
namespace U
open PySem PySem.Spec PyProof.Rows L2

/-! ### own defs: what they promise -/
inductive DR where
  | ok (r : PR) (fs : T)
  | exc (x : Ex) (fs : T)
  | stuck
/-- what of the lent objects is handed back -/
def finals : List Sl → T → Option T
  | [], _ => some []
  | a :: as, t :: τ => match a, t with
    | .io _, .io o => (finals as τ).map (Sl.io o :: ·)
    | .io _, _ => none
    | _, _ => (finals as τ).map (Sl.no :: ·)
  | _ :: _, [] => none
def DR.of (r : SR) (as : List Sl) : DR := match r with
  | .rt r τ => (match finals as τ with | some fs => .ok r fs | none => .stuck)
  | .nx τ => (match finals as τ with | some fs => .ok (.d .non) fs | none => .stuck)
  | .exc x τ => (match finals as τ with | some fs => .exc x fs | none => .stuck)
  | _ => .stuck
/-- the body f at these arguments; m: the other names -/
def run (m : Nat) (f : T → SR) (as : List Sl) : DR := DR.of (f (as ++ List.replicate m .no)) as
def CPost (K : PySem.W.Frag) (px : PX) (M : MS) (F H : Hp) (vs : List V) (Q : VK) (E : XK) : DR → Prop
  | .ok (.d z) fs => ∀ v F' H', Grow M F H F' H' → SRel K M F' H' (vs.map some) fs → Rep K F' v z → Q v H'
  | .ok (.o z) fs => ∀ v F' H', Grow M F H F' H' → SRel K M F' H' (vs.map some) fs → OwnR K M F' H' (vs.map some) fs v z → Q v H'
  | .exc x fs => ∀ F' H', Grow M F H F' H' → SRel K M F' H' (vs.map some) fs → ∀ dd, XD K px F' x dd → E (.ref (px.cls x.c)) dd H'
  | .stuck => False
def spOf (K : PySem.W.Frag) (px : PX) (n : Nat) (den : List Sl → DR) : Sp := fun vs H Q E => ∃ M F as, vs.length = n ∧ as.length = n ∧ SRel K M F H (vs.map some) as ∧ CPost K px M F H vs Q E (den as)
theorem finals_get : ∀ {as : List Sl} {τ fs : T} {i : Nat} {sl : Sl}, finals as τ = some fs → fs[i]? = some sl → sl ≠ .no → ∃ o0 o, as[i]? = some (.io o0) ∧ τ[i]? = some (.io o) ∧ sl = .io o
  | [], τ, fs, i, sl, h, e, n => by cases h; simp at e
  | a :: as, [], fs, i, sl, h, e, n => by cases h
  | a :: as, t :: τ, fs, i, sl, h, e, n => by
    have key : ∃ x fs', finals as τ = some fs' ∧ fs = x :: fs' ∧ (x ≠ .no → ∃ o0 o, a = .io o0 ∧ t = .io o ∧ x = .io o) := by
      cases a with
      | io o0 => cases t with
        | io o =>
          obtain ⟨fs', e1, rfl⟩ := map_some (show (finals as τ).map (Sl.io o :: ·) = some fs from h)
          exact ⟨_, fs', e1, rfl, fun _ => ⟨o0, o, rfl, rfl, rfl⟩⟩
        | _ => cases h
      | _ =>
        obtain ⟨fs', e1, rfl⟩ := map_some (show (finals as τ).map (Sl.no :: ·) = some fs from h)
        exact ⟨_, fs', e1, rfl, fun z => absurd rfl z⟩
    obtain ⟨x, fs', e1, rfl, hx⟩ := key
    cases i with
    | zero =>
      have : x = sl := by simpa using e
      subst this
      obtain ⟨o0, o, rfl, rfl, rfl⟩ := hx n
      exact ⟨o0, o, rfl, rfl, rfl⟩
    | succ i =>
      obtain ⟨o0, o, q1, q2, q3⟩ := finals_get (i := i) e1 (by simpa using e) n
      exact ⟨o0, o, by simpa using q1, by simpa using q2, q3⟩
theorem finals_len : ∀ {as : List Sl} {τ fs : T}, finals as τ = some fs → fs.length = as.length
  | [], τ, fs, h => by cases h; rfl
  | a :: as, [], fs, h => by cases h
  | a :: as, t :: τ, fs, h => by
    have key : ∃ x fs', finals as τ = some fs' ∧ fs = x :: fs' := by
      cases a with
      | io o0 => cases t with
        | io o =>
          obtain ⟨fs', e1, rfl⟩ := map_some (show (finals as τ).map (Sl.io o :: ·) = some fs from h)
          exact ⟨_, fs', e1, rfl⟩
        | _ => cases h
      | _ =>
        obtain ⟨fs', e1, rfl⟩ := map_some (show (finals as τ).map (Sl.no :: ·) = some fs from h)
        exact ⟨_, fs', e1, rfl⟩
    obtain ⟨x, fs', e1, rfl⟩ := key
    rw [List.length_cons, finals_len e1, List.length_cons]
section
variable {K : PySem.W.Frag} {px : PX} {M : MS} {F H F' H' : Hp} {σ σ' : St} {τ' : T} {vs : List V} {as : List Sl} {fs : T}
theorem SRel.finals (s0 : SRel K M F H (vs.map some) as) (s : SRel K M F' H' σ' τ') (e : U.finals as τ' = some fs) : SRel K M F' H' (vs.map some) fs := by
  have at_ : ∀ (i : Nat) (sl : Sl), fs[i]? = some sl → sl ≠ .no → ∃ o, sl = .io o ∧ τ'[i]? = some (.io o) ∧ (vs.map some)[i]? = some (some (V.ref (M.ad i))) ∧ σ'[i]? = some (some (V.ref (M.ad i))) := fun i sl h n => by
    obtain ⟨o0, o, q1, q2, rfl⟩ := finals_get e h n
    exact ⟨o, rfl, q2, s0.io i o0 q1, s.io i o q2⟩
  refine ⟨by rw [finals_len e]; exact s0.len, s.up, s.sub, fun i d h => ?_, fun i sl o h m => ?_, fun i j sl tl b h1 m1 h2 m2 f1 f2 => ?_, fun i o h => ?_⟩
  · obtain ⟨o, q, _⟩ := at_ i _ h (fun z => nomatch z); cases q
  · obtain ⟨o', rfl, q2, q3, q4⟩ := at_ i _ h (fun z => by subst z; cases m)
    cases m
    obtain ⟨a, u, h1, h2, h3, h4, h5⟩ := s.own i _ _ q2 rfl
    rw [q4] at h1
    cases h1
    exact ⟨_, u, q3, h2, h3, h4, h5⟩
  · obtain ⟨o1, rfl, q2, q3, q4⟩ := at_ i _ h1 (fun z => by subst z; exact m1 rfl)
    obtain ⟨o2, rfl, r2, r3, r4⟩ := at_ j _ h2 (fun z => by subst z; exact m2 rfl)
    rw [q3] at f1
    rw [r3] at f2
    cases f1
    refine s.apart i j _ _ (M.ad i) q2 m1 r2 m2 q4 ?_
    rw [r4]; exact f2
  · obtain ⟨_, _, _, q3, _⟩ := at_ i _ h (fun z => nomatch z); exact q3
theorem OwnR.finals {v : V} {o : OV} (s0 : SRel K M F H (vs.map some) as) (s : SRel K M F' H' σ' τ') (e : U.finals as τ' = some fs) (h : OwnR K M F' H' σ' τ' v o) : OwnR K M F' H' (vs.map some) fs v o := by
  obtain ⟨a, u, h1, h2, h3, h4, h5, h6⟩ := h
  refine ⟨a, u, h1, h2, h3, h4, h5, fun i sl q m z => ?_⟩
  obtain ⟨o0, o', q1, q2, rfl⟩ := finals_get e q (fun z => by subst z; exact m rfl)
  have z1 := s0.io i o0 q1
  have z2 := s.io i o' q2
  rw [z1] at z
  exact h6 i _ q2 m (by rw [z2]; exact z)
theorem app_get {m i : Nat} {sl : Sl} (h : (as ++ List.replicate m Sl.no)[i]? = some sl) (n : sl ≠ .no) : as[i]? = some sl := by
  by_cases c : i < as.length
  · rw [List.getElem?_append_left c] at h; exact h
  · rw [List.getElem?_append_right (by omega), List.getElem?_replicate] at h
    split at h
    · cases h; exact absurd rfl n
    · cases h
theorem app_left {α : Type} {l r : List α} {i : Nat} {x : α} (h : l[i]? = some x) : (l ++ r)[i]? = some x := by
  obtain ⟨c, _⟩ := List.getElem?_eq_some_iff.mp h
  rw [List.getElem?_append_left c]; exact h
theorem SRel.start {m k : Nat} (s : SRel K M F H (vs.map some) as) (hl : vs.length = as.length) (hm : m ≤ k) : SRel K M F H (vs.map some ++ List.replicate k none) (as ++ List.replicate m .no) := by
  refine ⟨by simp; omega, s.up, s.sub, fun i d h => ?_, fun i sl o h e => ?_, fun i j sl tl b h1 m1 h2 m2 f1 f2 => ?_, fun i o h => ?_⟩
  · obtain ⟨v, e, r⟩ := s.val i d (app_get h fun z => nomatch z)
    exact ⟨v, app_left e, r⟩
  · obtain ⟨a, u, h1, h2⟩ := s.own i sl o (app_get h fun z => by subst z; cases e) e
    exact ⟨a, u, app_left h1, h2⟩
  · have q1 := app_get h1 (fun z => by subst z; exact m1 rfl)
    have q2 := app_get h2 (fun z => by subst z; exact m2 rfl)
    obtain ⟨o1, e1⟩ := Option.ne_none_iff_exists'.mp m1
    obtain ⟨o2, e2⟩ := Option.ne_none_iff_exists'.mp m2
    obtain ⟨a1, _, p1, _⟩ := s.own i sl o1 q1 e1
    obtain ⟨a2, _, p2, _⟩ := s.own j tl o2 q2 e2
    rw [app_left p1] at f1
    rw [app_left p2] at f2
    cases f1
    cases f2
    exact s.apart i j sl tl _ q1 m1 q2 m2 p1 p2
  · exact app_left (s.io i o (app_get h fun z => nomatch z))
theorem run_post {Q : VK} {E : XK} {r : SR} {D : Ends} (hnx : D.nx = fun _ H' => Q .non H') (hrt : D.rt = Q) (s0 : SRel K M F H (vs.map some) as) (p : CPost K px M F H vs Q E (DR.of r as)) : SPost K px (fun cls d _ H => E cls d H) M F H D r := by
  cases r with
  | rt r τ =>
    have p : CPost K px M F H vs Q E (match U.finals as τ with | some fs => .ok r fs | none => .stuck) := p
    cases e : U.finals as τ with
    | none => rw [e] at p; exact p.elim
    | some fs =>
      rw [e] at p
      cases r with
      | d z => exact fun v σ' F' H' g s r => by rw [hrt]; exact p v F' H' g (s0.finals s e) r
      | o z => exact fun v σ' F' H' g s r => by rw [hrt]; exact p v F' H' g (s0.finals s e) (r.finals s0 s e)
  | nx τ =>
    have p : CPost K px M F H vs Q E (match U.finals as τ with | some fs => .ok (.d .non) fs | none => .stuck) := p
    cases e : U.finals as τ with
    | none => rw [e] at p; exact p.elim
    | some fs =>
      rw [e] at p
      exact fun σ' F' H' g s => by rw [hnx]; exact p .non F' H' g (s0.finals s e) .non
  | exc x τ =>
    have p : CPost K px M F H vs Q E (match U.finals as τ with | some fs => .exc x fs | none => .stuck) := p
    cases e : U.finals as τ with
    | none => rw [e] at p; exact p.elim
    | some fs =>
      rw [e] at p
      exact fun σ' F' H' g s dd xd => p F' H' g (s0.finals s e) dd xd
  | bk τ => exact p.elim
  | ct τ => exact p.elim
  | stuck => exact p.elim
end
section
variable {P : Program} {w : World} {K : PySem.W.Frag} {mg : Str → Option Value} {base : Heap} {x qual : Str} {params : Arguments} {body : List Stmt} {scope : Scope} {f : Addr} {fd : FuncData} {px : PX}
/-- THE RULE of a def -/
theorem fn_run {N ps : List Str} {k m : Nat} {g : T → SR} (F : FunD K x qual params body scope [] [] f fd) (S : FnScope N ps scope) (hn : N.length = ps.length + m)
    (hb : ∀ (cdv : Value) (A : Around) (outer : List Env) (s : Shared) (H : Hp) (E : XK), Room k (A.deeper (envOfC qual scope s.heap.objs.size f cdv)) →
      Takes (cxOf (L2.CX P w) P w K mg base N qual scope f cdv A outer s H E) (fun cls d _ H => E cls d H) →
      PassesOwn (model P w) (cxOf (L2.CX P w) P w K mg base N qual scope f cdv A outer s H E).A (cxOf (L2.CX P w) P w K mg base N qual scope f cdv A outer s H E).env (cxOf (L2.CX P w) P w K mg base N qual scope f cdv A outer s H E).xe →
      JSs px (fun cls d _ H => E cls d H) (cxOf (L2.CX P w) P w K mg base N qual scope f cdv A outer s H E) body g) :
    FnOk P w K mg base (L2.CX P w) (k + 1) f fd ps (spOf K px ps.length (run m g)) := by
  refine F.ok S (fun vs H Q E h => ?_) (fun cdv A outer s H vs Q E hr h => ⟨_, hb cdv A outer s H E hr (takes_of rfl rfl rfl rfl) (passes_of rfl), ?_⟩)
  · obtain ⟨M, F, as, h, _⟩ := h; exact h
  · obtain ⟨M, F, as, hv, ha, sr, p⟩ := h
    refine ⟨M, F, as ++ List.replicate m Sl.no, ?_, run_post (K := K) (px := px) (E := E) (D := { nx := fun _ H' => Q V.non H', rt := Q }) (r := g (as ++ List.replicate m Sl.no)) rfl rfl sr p⟩
    exact sr.start (by omega) (by omega)
end
/-! ### calling them -/
def avL : List BR → T → Option (List Sl)
  | [], _ => some []
  | .d z :: bs, τ => (avL bs τ).map (Sl.val z :: ·)
  | .sl i :: bs, τ => match τ[i]? with
    | some (.own o) => (avL bs τ).map (Sl.io o :: ·)
    | some (.io o) => (avL bs τ).map (Sl.io o :: ·)
    | some (.val d) => (avL bs τ).map (Sl.val d :: ·)
    | _ => none
def slL : List BR → List Nat
  | [] => []
  | .d _ :: bs => slL bs
  | .sl i :: bs => i :: slL bs
def putL : List BR → List Sl → T → T → Option T
  | [], [], [], τ => some τ
  | b :: bs, a :: as, f :: fs, τ => match b, a, f with
    | .sl i, .io _, .io o => putL bs as fs (τ.set i ((τ.getD i .no).put o))
    | _, .val _, _ => putL bs as fs τ
    | _, _, _ => none
  | _, _, _, _ => none
def sCall (den : List Sl → DR) (fa : T → Rs (List BR)) : T → Rs PR := fun τ => (fa τ).bind fun bs τ1 => if (slL bs).Nodup then (match avL bs τ1 with
  | some as => (match den as with
    | .ok r fs => (match putL bs as fs τ1 with | some τ2 => .ok r τ2 | none => .stuck)
    | .exc x fs => (match putL bs as fs τ1 with | some τ2 => .exc x τ2 | none => .stuck)
    | .stuck => .stuck)
  | none => .stuck) else .stuck
theorem avL_get : ∀ {bs : List BR} {τ : T} {as : List Sl} {i : Nat} {sl : Sl}, avL bs τ = some as → as[i]? = some sl →
    (∃ z, bs[i]? = some (.d z) ∧ sl = .val z) ∨ ∃ j, bs[i]? = some (.sl j) ∧ ((∃ d, τ[j]? = some (.val d) ∧ sl = .val d) ∨ ∃ s o, τ[j]? = some s ∧ s.mut = some o ∧ sl = .io o)
  | [], τ, as, i, sl, h, e => by cases h; simp at e
  | b :: bs, τ, as, i, sl, h, e => by
    have key : ∃ x as', avL bs τ = some as' ∧ as = x :: as' ∧ ((∃ z, b = .d z ∧ x = .val z) ∨ ∃ j, b = .sl j ∧ ((∃ d, τ[j]? = some (.val d) ∧ x = .val d) ∨ ∃ s o, τ[j]? = some s ∧ s.mut = some o ∧ x = .io o)) := by
      cases b with
      | d z =>
        obtain ⟨as', e1, rfl⟩ := map_some (show (avL bs τ).map (Sl.val z :: ·) = some as from h)
        exact ⟨_, as', e1, rfl, .inl ⟨z, rfl, rfl⟩⟩
      | sl j =>
        unfold avL at h
        cases q : τ[j]? with
        | none => rw [q] at h; cases h
        | some s =>
          rw [q] at h
          cases s with
          | no => cases h
          | val d => obtain ⟨as', e1, rfl⟩ := map_some h; exact ⟨_, as', e1, rfl, .inr ⟨j, rfl, .inl ⟨d, q, rfl⟩⟩⟩
          | own o => obtain ⟨as', e1, rfl⟩ := map_some h; exact ⟨_, as', e1, rfl, .inr ⟨j, rfl, .inr ⟨_, o, q, rfl, rfl⟩⟩⟩
          | io o => obtain ⟨as', e1, rfl⟩ := map_some h; exact ⟨_, as', e1, rfl, .inr ⟨j, rfl, .inr ⟨_, o, q, rfl, rfl⟩⟩⟩
    obtain ⟨x, as', e1, rfl, hx⟩ := key
    cases i with
    | zero =>
      have : x = sl := by simpa using e
      subst this
      rcases hx with ⟨z, rfl, rfl⟩ | ⟨j, rfl, hj⟩
      · exact .inl ⟨z, rfl, rfl⟩
      · exact .inr ⟨j, rfl, hj⟩
    | succ i => exact avL_get (bs := bs) (i := i) e1 (by simpa using e)
theorem avL_len : ∀ {bs : List BR} {τ : T} {as : List Sl}, avL bs τ = some as → as.length = bs.length
  | [], τ, as, h => by cases h; rfl
  | b :: bs, τ, as, h => by
    have key : ∃ x as', avL bs τ = some as' ∧ as = x :: as' := by
      cases b with
      | d z =>
        obtain ⟨as', e1, rfl⟩ := map_some (show (avL bs τ).map (Sl.val z :: ·) = some as from h)
        exact ⟨_, as', e1, rfl⟩
      | sl j =>
        unfold avL at h
        cases q : τ[j]? with
        | none => rw [q] at h; cases h
        | some s =>
          rw [q] at h
          cases s with
          | no => cases h
          | _ => obtain ⟨as', e1, rfl⟩ := map_some h; exact ⟨_, as', e1, rfl⟩
    obtain ⟨x, as', e1, rfl⟩ := key
    rw [List.length_cons, avL_len e1, List.length_cons]
theorem slL_mem : ∀ {bs : List BR} {i j : Nat}, bs[i]? = some (.sl j) → j ∈ slL bs
  | [], i, j, h => by simp at h
  | b :: bs, 0, j, h => by
    have : b = .sl j := by simpa using h
    subst this; simp [slL]
  | b :: bs, i + 1, j, h => by
    have := slL_mem (bs := bs) (i := i) (j := j) (by simpa using h)
    cases b with
    | d z => exact this
    | sl k => simp only [slL, List.mem_cons]; exact .inr this
theorem slL_inj : ∀ {bs : List BR} {i i' j : Nat}, (slL bs).Nodup → bs[i]? = some (.sl j) → bs[i']? = some (.sl j) → i = i'
  | [], i, i', j, n, h, h' => by simp at h
  | b :: bs, 0, 0, j, n, h, h' => rfl
  | b :: bs, 0, i' + 1, j, n, h, h' => by
    have e : b = .sl j := by simpa using h
    subst e
    have n : (j :: slL bs).Nodup := n
    exact absurd (slL_mem (i := i') (by simpa using h')) (List.nodup_cons.mp n).1
  | b :: bs, i + 1, 0, j, n, h, h' => by
    have e : b = .sl j := by simpa using h'
    subst e
    have n : (j :: slL bs).Nodup := n
    exact absurd (slL_mem (i := i) (by simpa using h)) (List.nodup_cons.mp n).1
  | b :: bs, i + 1, i' + 1, j, n, h, h' => by
    have n' : (slL bs).Nodup := by
      cases b with
      | d z => exact n
      | sl k => exact (List.nodup_cons.mp (show (k :: slL bs).Nodup from n)).2
    rw [slL_inj n' (i := i) (i' := i') (by simpa using h) (by simpa using h')]
/-- what stands behind putL -/
def PutAt (bs : List BR) (as : List Sl) (fs τ : T) (j : Nat) (sl : Sl) : Prop :=
  (τ[j]? = some sl ∧ ∀ (i : Nat) (o : OV), bs[i]? = some (BR.sl j) → as[i]? ≠ some (Sl.io o)) ∨ ∃ (i : Nat) (o0 o : OV) (s : Sl), bs[i]? = some (BR.sl j) ∧ as[i]? = some (Sl.io o0) ∧ fs[i]? = some (Sl.io o) ∧ τ[j]? = some s ∧ sl = s.put o
theorem putL_get : ∀ {bs : List BR} {as : List Sl} {fs τ τ' : T} {j : Nat} {sl : Sl}, (slL bs).Nodup → putL bs as fs τ = some τ' → τ'[j]? = some sl → PutAt bs as fs τ j sl
  | [], [], [], τ, τ', j, sl, n, h, e => by cases h; exact .inl ⟨e, fun i o z => by simp at z⟩
  | [], [], _ :: _, τ, τ', j, sl, n, h, e => by cases h
  | [], _ :: _, _, τ, τ', j, sl, n, h, e => by cases h
  | _ :: _, [], _, τ, τ', j, sl, n, h, e => by cases h
  | _ :: _, _ :: _, [], τ, τ', j, sl, n, h, e => by cases h
  | b :: bs, a :: as, f :: fs, τ, τ', j, sl, n, h, e => by
    have n' : (slL bs).Nodup := by
      cases b with
      | d z => exact n
      | sl k => exact (List.nodup_cons.mp (show (k :: slL bs).Nodup from n)).2
    have isv : ∀ z, a = .val z → putL bs as fs τ = some τ' → PutAt (b :: bs) (a :: as) (f :: fs) τ j sl := fun z ha h => by
      rcases putL_get n' h e with ⟨q1, q2⟩ | ⟨i, o0, o, s, q1, q2, q3, q4, q5⟩
      · refine .inl ⟨q1, fun i o z1 z2 => ?_⟩
        cases i with
        | zero => rw [ha] at z2; simp at z2
        | succ i => exact q2 i o (by simpa using z1) (by simpa using z2)
      · exact .inr ⟨i + 1, o0, o, s, by simpa using q1, by simpa using q2, by simpa using q3, q4, q5⟩
    cases a with
    | val z =>
      refine isv z rfl ?_
      unfold putL at h
      cases b <;> exact h
    | no => unfold putL at h; cases b <;> cases h
    | own o => unfold putL at h; cases b <;> cases h
    | io o0 =>
      cases b with
      | d z => unfold putL at h; cases h
      | sl k =>
        cases f with
        | io o =>
          have h : putL bs as fs (τ.set k ((τ.getD k .no).put o)) = some τ' := h
          have nk : k ∉ slL bs := (List.nodup_cons.mp (show (k :: slL bs).Nodup from n)).1
          rcases putL_get n' h e with ⟨q1, q2⟩ | ⟨i, o1, o', s, q1, q2, q3, q4, q5⟩
          · rcases get_set q1 with ⟨rfl, q, hl⟩ | ⟨hne, q1⟩
            · refine .inr ⟨0, o0, o, τ.getD j .no, rfl, rfl, rfl, ?_, q⟩
              simp [List.getD, hl]
            · refine .inl ⟨q1, fun i o z1 z2 => ?_⟩
              cases i with
              | zero =>
                have : k = j := by simpa using z1
                exact hne this.symm
              | succ i => exact q2 i o (by simpa using z1) (by simpa using z2)
          · have : j ≠ k := fun z => nk (by rw [← z]; exact slL_mem (i := i) q1)
            rw [List.getElem?_set_ne (Ne.symm this)] at q4
            exact .inr ⟨i + 1, o1, o', s, by simpa using q1, by simpa using q2, by simpa using q3, q4, q5⟩
        | _ => unfold putL at h; cases h
theorem putL_len : ∀ {bs : List BR} {as : List Sl} {fs τ τ' : T}, putL bs as fs τ = some τ' → τ'.length = τ.length
  | [], [], [], τ, τ', h => by cases h; rfl
  | [], [], _ :: _, τ, τ', h => by cases h
  | [], _ :: _, _, τ, τ', h => by cases h
  | _ :: _, [], _, τ, τ', h => by cases h
  | _ :: _, _ :: _, [], τ, τ', h => by cases h
  | b :: bs, a :: as, f :: fs, τ, τ', h => by
    unfold putL at h
    cases a with
    | val z => cases b <;> exact putL_len h
    | no => cases b <;> cases h
    | own o => cases b <;> cases h
    | io o0 =>
      cases b with
      | d z => cases h
      | sl k =>
        cases f with
        | io o => rw [putL_len h, List.length_set]
        | _ => cases h
theorem BRL.get {K : PySem.W.Frag} {F : Hp} {σ : St} : ∀ {vs : List V} {bs : List BR}, BRL K F σ vs bs → ∀ {i : Nat} {b : BR}, bs[i]? = some b → ∃ v, vs[i]? = some v ∧ BRep K F σ v b
  | _, _, .nil, i, b, e => by simp at e
  | _, _, .cons h r, 0, b, e => by simp at e; subst e; exact ⟨_, rfl, h⟩
  | _, _, .cons h r, i + 1, b, e => r.get (i := i) (by simpa using e)
theorem BRL.length {K : PySem.W.Frag} {F : Hp} {σ : St} : ∀ {vs : List V} {bs : List BR}, BRL K F σ vs bs → vs.length = bs.length
  | _, _, .nil => rfl
  | _, _, .cons _ r => congrArg (· + 1) r.length
def refAt (vs : List V) (i : Nat) : Addr := match vs[i]? with
  | some (.ref a) => a
  | _ => 0
def callM (H : Hp) (vs : List V) (as : List Sl) : MS := ⟨fun a => H a = none ∨ ∃ (i : Nat) (o : OV), as[i]? = some (Sl.io o) ∧ vs[i]? = some (V.ref a), refAt vs⟩
section
variable {K : PySem.W.Frag} {px : PX} {M : MS} {F H F' H' : Hp} {σ : St} {τ τ' : T} {vs : List V} {bs : List BR} {as : List Sl} {fs : T}
/-- the lent slot of an argument -/
theorem lent (s : SRel K M F H σ τ) (rb : BRL K F σ vs bs) (ea : avL bs τ = some as) {i : Nat} {o : OV} (h : as[i]? = some (.io o)) : ∃ j sl a u, bs[i]? = some (.sl j) ∧ τ[j]? = some sl ∧ sl.mut = some o ∧ vs[i]? = some (V.ref a) ∧ σ[j]? = some (some (V.ref a)) ∧ H a = some u ∧ F a = none ∧ M.m a ∧ OwnO K F o u := by
  rcases avL_get ea h with ⟨z, _, q⟩ | ⟨j, hb, ⟨d, _, q⟩ | ⟨sl, o', h1, h2, q⟩⟩
  · cases q
  · cases q
  · cases q
    obtain ⟨v, hv, rv⟩ := rb.get hb
    have rv : σ[j]? = some (some v) := rv
    obtain ⟨a, u, p1, p2, p3, p4, p5⟩ := s.own j sl _ h1 h2
    rw [p1] at rv
    cases rv
    exact ⟨j, sl, a, u, hb, h1, h2, hv, p1, p2, p3, p4, p5⟩
theorem callM_sub (s : SRel K M F H σ τ) (rb : BRL K F σ vs bs) (ea : avL bs τ = some as) : ∀ a, (callM H vs as).m a → M.m a := fun a h => by
  rcases h with h | ⟨i, o, h1, h2⟩
  · exact s.up a h
  · obtain ⟨j, sl, b, u, _, _, _, q, _, _, _, q2, _⟩ := lent s rb ea h1
    rw [q] at h2
    cases h2
    exact q2
theorem map_get {i : Nat} {v : V} (h : vs[i]? = some v) : (vs.map some)[i]? = some (some v) := by rw [List.getElem?_map, h]; rfl
theorem SRel.call (s : SRel K M F H σ τ) (rb : BRL K F σ vs bs) (ea : avL bs τ = some as) (nd : (slL bs).Nodup) : SRel K (callM H vs as) F H (vs.map some) as := by
  refine ⟨by rw [List.length_map, avL_len ea, rb.length]; exact Nat.le_refl _, fun a h => .inl h, s.sub, fun i d h => ?_, fun i sl o h m => ?_, fun i j sl tl b h1 m1 h2 m2 f1 f2 => ?_, fun i o h => ?_⟩
  · rcases avL_get ea h with ⟨z, hb, q⟩ | ⟨j, hb, ⟨d', h1, q⟩ | ⟨sl, o', h1, h2, q⟩⟩
    · cases q
      obtain ⟨v, hv, rv⟩ := rb.get hb
      exact ⟨v, map_get hv, rv⟩
    · cases q
      obtain ⟨v, hv, rv⟩ := rb.get hb
      have rv : σ[j]? = some (some v) := rv
      obtain ⟨v', p1, p2⟩ := s.val j _ h1
      rw [p1] at rv
      cases rv
      exact ⟨v, map_get hv, p2⟩
    · cases q
  · have hio : sl = .io o := by
      rcases avL_get ea h with ⟨z, _, q⟩ | ⟨j, hb, ⟨d', h1, q⟩ | ⟨sl', o', h1, h2, q⟩⟩
      · subst q; cases m
      · subst q; cases m
      · subst q; cases m; rfl
    subst hio
    obtain ⟨j, sl, a, u, q0, q1, q2, q3, q4, q5, q6, q7, q8⟩ := lent s rb ea h
    exact ⟨a, u, map_get q3, q5, q6, .inr ⟨i, o, h, q3⟩, q8⟩
  · have io : ∀ {i : Nat} {sl : Sl}, as[i]? = some sl → sl.mut ≠ none → ∃ o, sl = .io o := fun {i sl} h m => by
      rcases avL_get ea h with ⟨z, _, q⟩ | ⟨j, hb, ⟨d', h1, q⟩ | ⟨sl', o', h1, h2, q⟩⟩
      · subst q; exact absurd rfl m
      · subst q; exact absurd rfl m
      · exact ⟨o', q⟩
    obtain ⟨o1, rfl⟩ := io h1 m1
    obtain ⟨o2, rfl⟩ := io h2 m2
    obtain ⟨k1, sl1, a1, u1, q0, q1, q2, q3, q4, _⟩ := lent s rb ea h1
    obtain ⟨k2, sl2, a2, u2, r0, r1, r2, r3, r4, _⟩ := lent s rb ea h2
    rw [map_get q3] at f1
    rw [map_get r3] at f2
    cases f1
    cases f2
    have := s.apart k1 k2 sl1 sl2 _ q1 (by rw [q2]; exact fun z => nomatch z) r1 (by rw [r2]; exact fun z => nomatch z) q4 r4
    subst this
    exact slL_inj nd q0 r0
  · obtain ⟨j, sl, a, u, q0, q1, q2, q3, _⟩ := lent s rb ea h
    rw [map_get q3]
    show some (some (V.ref a)) = some (some (V.ref (refAt vs i)))
    unfold refAt
    rw [q3]
theorem put_mut {s : Sl} {o : OV} : (s.put o).mut = some o := by cases s <;> rfl
/-- behind the call -/
theorem SRel.back (s : SRel K M F H σ τ) (rb : BRL K F σ vs bs) (ea : avL bs τ = some as) (nd : (slL bs).Nodup) (g : Grow (callM H vs as) F H F' H') (s' : SRel K (callM H vs as) F' H' (vs.map some) fs) (ep : putL bs as fs τ = some τ') :
    SRel K M F' H' σ τ' := by
  have was : ∀ {j : Nat} {sl : Sl}, τ'[j]? = some sl → sl.mut ≠ none → ∃ s0, τ[j]? = some s0 ∧ s0.mut ≠ none := fun {j sl} h m => by
    rcases putL_get nd ep h with ⟨q, _⟩ | ⟨i, o0, o, s0, q1, q2, q3, q4, q5⟩
    · exact ⟨sl, q, m⟩
    · obtain ⟨j', sl', a, u, p0, p1, p2, _⟩ := lent s rb ea q2
      rw [q1] at p0
      cases p0
      exact ⟨sl', p1, by rw [p2]; exact fun z => nomatch z⟩
  refine ⟨by rw [putL_len ep]; exact s.len, fun a e => s.up a (g.there a e), s'.sub, fun j d h => ?_, fun j sl o h m => ?_, fun i j sl tl b h1 m1 h2 m2 f1 f2 => ?_, fun j o h => ?_⟩
  · rcases putL_get nd ep h with ⟨q, _⟩ | ⟨i, o0, o, s0, q1, q2, q3, q4, q5⟩
    · obtain ⟨v, e, r⟩ := s.val j d q
      exact ⟨v, e, r.mono g.frz⟩
    · cases s0 <;> cases q5
  · rcases putL_get nd ep h with ⟨q, un⟩ | ⟨i, o0, o', s0, q1, q2, q3, q4, q5⟩
    · obtain ⟨a, u, p1, p2, p3, p4, p5⟩ := s.own j sl o q m
      have out : ¬ (callM H vs as).m a := fun z => by
        rcases z with z | ⟨i, o1, z1, z2⟩
        · rw [p2] at z; cases z
        · obtain ⟨k, sk, b, w, r0, r1, r2, r3, r4, _⟩ := lent s rb ea z1
          rw [r3] at z2
          cases z2
          have := s.apart j k sl sk a q (by rw [m]; exact fun z => nomatch z) r1 (by rw [r2]; exact fun z => nomatch z) p1 r4
          subst this
          exact un i o1 r0 z1
      exact ⟨a, u, p1, g.keep a u p2 out, g.free a p3 (by rw [p2]; exact fun z => nomatch z) out, p4, p5.mono g.frz⟩
    · subst q5
      rw [put_mut] at m
      cases m
      obtain ⟨k, sk, b, w, r0, r1, r2, r3, r4, r5, r6, r7, _⟩ := lent s rb ea q2
      rw [q1] at r0
      cases r0
      obtain ⟨a, u, p1, p2, p3, p4, p5⟩ := s'.own i _ _ q3 rfl
      rw [map_get r3] at p1
      cases p1
      exact ⟨b, u, r4, p2, p3, r7, p5⟩
  · obtain ⟨s1, q1, n1⟩ := was h1 m1
    obtain ⟨s2, q2, n2⟩ := was h2 m2
    exact s.apart i j s1 s2 b q1 n1 q2 n2 f1 f2
  · rcases putL_get nd ep h with ⟨q, _⟩ | ⟨i, o0, o', s0, q1, q2, q3, q4, q5⟩
    · exact s.io j o q
    · cases s0 with
      | io o1 => exact s.io j o1 q4
      | _ => cases q5
theorem OwnR.back {v : V} {o : OV} (s : SRel K M F H σ τ) (rb : BRL K F σ vs bs) (ea : avL bs τ = some as) (nd : (slL bs).Nodup) (g : Grow (callM H vs as) F H F' H') (s' : SRel K (callM H vs as) F' H' (vs.map some) fs) (ep : putL bs as fs τ = some τ')
    (h : OwnR K (callM H vs as) F' H' (vs.map some) fs v o) : OwnR K M F' H' σ τ' v o := by
  obtain ⟨a, u, h1, h2, h3, h4, h5, h6⟩ := h
  refine ⟨a, u, h1, h2, h3, callM_sub s rb ea a h4, h5, fun j sl e m z => ?_⟩
  rcases putL_get nd ep e with ⟨q, un⟩ | ⟨i, o0, o', s0, q1, q2, q3, q4, q5⟩
  · obtain ⟨o1, e1⟩ := Option.ne_none_iff_exists'.mp m
    obtain ⟨b, w, p1, p2, p3, p4, p5⟩ := s.own j sl o1 q e1
    rw [p1] at z
    cases z
    rcases h4 with h4 | ⟨i, o2, z1, z2⟩
    · rw [p2] at h4; cases h4
    · obtain ⟨k, sk, b', w', r0, r1, r2, r3, r4, _⟩ := lent s rb ea z1
      rw [r3] at z2
      cases z2
      have := s.apart j k sl sk a q m r1 (by rw [r2]; exact fun z => nomatch z) p1 r4
      subst this
      exact un i o2 r0 z1
  · obtain ⟨k, sk, b', w', r0, r1, r2, r3, r4, _⟩ := lent s rb ea q2
    rw [q1] at r0
    cases r0
    rw [r4] at z
    cases z
    exact h6 i _ q3 (fun z => nomatch z) (map_get r3)
end
section
variable {px : PX} {W : WX} {X : Cx} {k : Nat} {f : Addr} {fd : FuncData} {ps : List Str} {x : Str} {p pos : Pos} {e : Expr} {es : List Expr}
theorem rd_call {K : PySem.W.Frag} {den : List Sl → DR} {fa : T → Rs (List BR)} {n : Nat} {σ : St} {H : Hp} {Q : VK} (hn : ∀ τ bs τ1, fa τ = .ok bs τ1 → bs.length = n) (h : rdX K px W (sCall den fa) σ H Q) :
    (∃ M F τ, SRel K M F H σ τ ∧ Post K px W M F H σ (fa τ) fun bs _ F' H' => ∀ vs, BRL K F' σ vs bs → spOf K px n den vs H' Q (WE W σ)) := by
  obtain ⟨M, F, τ, s, p⟩ := h
  refine ⟨M, F, τ, s, ?_⟩
  unfold sCall at p
  cases ef : fa τ with
  | stuck => rw [ef] at p; exact p.elim
  | exc y t => rw [ef] at p; exact p
  | ok bs τ1 =>
    rw [ef] at p
    intro F1 H1 g1 s1 vs rb
    have hl := hn _ _ _ ef
    have p : Post K px W M F H σ (if (slL bs).Nodup then (match avL bs τ1 with
      | some as => (match den as with
        | .ok r fs => (match putL bs as fs τ1 with | some τ2 => .ok r τ2 | none => .stuck)
        | .exc x fs => (match putL bs as fs τ1 with | some τ2 => .exc x τ2 | none => .stuck)
        | .stuck => .stuck)
      | none => .stuck) else .stuck) (RX K M σ Q) := p
    by_cases nd : (slL bs).Nodup
    · rw [if_pos nd] at p
      cases ea : avL bs τ1 with
      | none => rw [ea] at p; exact p.elim
      | some as =>
        simp only [ea] at p
        refine ⟨callM H1 vs as, F1, as, by rw [rb.length, hl], by rw [avL_len ea, hl], s1.call rb ea nd, ?_⟩
        have gm : ∀ {F' H' : Hp}, Grow (callM H1 vs as) F1 H1 F' H' → Grow M F H F' H' := fun g => g1.trans (g.mono (callM_sub s1 rb ea))
        cases ed : den as with
        | stuck => rw [ed] at p; exact p.elim
        | exc y fs =>
          simp only [ed] at p
          cases ep : putL bs as fs τ1 with
          | none => rw [ep] at p; exact p.elim
          | some τ2 =>
            simp only [ep] at p
            exact fun F' H' g' s' dd xd => p F' H' (gm g') (s1.back rb ea nd g' s' ep) dd xd
        | ok r fs =>
          simp only [ed] at p
          cases ep : putL bs as fs τ1 with
          | none => rw [ep] at p; exact p.elim
          | some τ2 =>
            simp only [ep] at p
            cases r with
            | d z => exact fun v F' H' g' s' rv => p F' H' (gm g') (s1.back rb ea nd g' s' ep) v rv
            | o z => exact fun v F' H' g' s' rv => p F' H' (gm g') (s1.back rb ea nd g' s' ep) v (rv.back s1 rb ea nd g' s' ep)
    · rw [if_neg nd] at p; exact p.elim
theorem jx_call {den : List Sl → DR} {fa : T → Rs (List BR)} {n : Nat} (F : FnOk X.prog X.w X.K X.mg X.base (L2.CX X.prog X.w) k f fd ps (spOf X.K px n den)) (hr : Room k X.A) (hg : Gl X x) (hm : X.mg x = some (.ref f)) (hk : PySem.W.keepIn X.K (.ref f) = true) (hb : Binds X.K fd ps []) (tk : Takes X W)
    (ha : JAB px W X (e :: es) fa) (hn : ∀ τ bs τ1, fa τ = .ok bs τ1 → bs.length = n) (hdb : (x == ("__debug__" : Str)) = false) (he : starEach (e :: es) X.env = (false, eval e X.env) :: starEach es X.env) (hpl : (backTo pos (starEach es X.env)).any (·.1) = false) :
    JX px W X (.Call (.Name x p) (e :: es) [] pos) (sCall den fa) :=
  PE.imp (pe_callS F hr hg hm hk hb (fun σ => passAt tk σ) ha hdb he hpl) fun σ H Q h => rd_call hn h
theorem pe_callS0 {CX : CXT} {sp : Sp} {E : St → XK} (F : FnOk X.prog X.w X.K X.mg X.base CX k f fd ps sp) (hr : Room k X.A) (hg : Gl X x) (hm : X.mg x = some (.ref f)) (hk : PySem.W.keepIn X.K (.ref f) = true) (hb : Binds X.K fd ps []) (hx : ∀ σ, PassesAt CX X σ (E σ))
    (hdb : (x == ("__debug__" : Str)) = false) : PE X (.Call (.Name x p) [] [] pos) (tCallS sp E tNil) := by
  refine ⟨fun pins s σ H Q I h => ?_⟩
  refine wpAny_Call_Name_kw (ld_glob I hg hm ?_ hdb)
  exact PySem.W.callWith_K0 I.kIn hk (run_fnS (us := []) F hr hb (hx σ) I .nil h)
theorem jx_call0 {den : List Sl → DR} (F : FnOk X.prog X.w X.K X.mg X.base (L2.CX X.prog X.w) k f fd ps (spOf X.K px 0 den)) (hr : Room k X.A) (hg : Gl X x) (hm : X.mg x = some (.ref f)) (hk : PySem.W.keepIn X.K (.ref f) = true) (hb : Binds X.K fd ps []) (tk : Takes X W)
    (hdb : (x == ("__debug__" : Str)) = false) : JX px W X (.Call (.Name x p) [] [] pos) (sCall den sBNil) :=
  PE.imp (pe_callS0 F hr hg hm hk hb (fun σ => passAt tk σ) hdb) fun σ H Q h => by
    obtain ⟨M, F, τ, s, p⟩ := rd_call (n := 0) (fun τ bs τ1 e => by cases e; rfl) h
    exact p F H .refl s [] .nil
end
end U
end

section
set_option Elab.async false
set_option linter.all false
set_option maxRecDepth 100000
namespace U
open PySem PySem.Spec PyProof.Rows L2

/-! ### sum of a tuple, min, max -/
theorem preSum_getD (ns : List Int) : ∀ k, k ≤ ns.length → preSum (fun i => ns.getD i 0) k = (ns.take k).sum
  | 0, _ => by simp [preSum]
  | k + 1, h => by
    have hk : k < ns.length := h
    rw [preSum, preSum_getD ns k (Nat.le_of_lt hk), List.take_add_one, List.sum_append]
    simp [List.getD, hk]
theorem ints_at : ∀ {its : List Value} {ns : List Int}, Vals (ns.map V.int) its → ∀ (i : Nat) (v : Value), its[i]? = some v → ∃ t, v = .int (ns.getD i 0) t
  | _, [], .nil, i, v, h => by simp at h
  | _, n :: ns, .cons r t, 0, v, h => by
    obtain ⟨t, rfl⟩ := r
    have : v = .int n t := by simpa using h.symm
    exact ⟨t, by simpa using this⟩
  | _, n :: ns, .cons r t, i + 1, v, h => by
    obtain ⟨t', e⟩ := ints_at t i v (by simpa using h)
    exact ⟨t', by simpa using e⟩
section
variable {X : Cx}
theorem sum_tupR (hc : X.calm = true) {pins : List (Addr × Obj)} {s : Shared} {σ : St} {H : Hp} {Q : VK} {a : Addr} {ns : List Int} (I : Inv X pins σ H s) (hq : SqT X.K H a (ns.map V.int)) (q : Q (.int ns.sum) H) :
    wpAny (model X.prog X.w) X.A (call (.builtin "sum") [.ref a]) (EP X pins σ Q) X.xe s := by
  obtain ⟨its, rv, p, _⟩ := I.tuple hq
  have hl : its.length = ns.length := by rw [← rv.length]; simp
  refine call_sum_walkAnyS (PySem.W.iter_tupleW (A := X.A.in1) (I.ok.hd hc) (show s.heap.IsTuple a its.toArray from p) fun s₂ e W st hfp hw hk => ?_)
  refine ⟨_, _, _, _, _, _, _, fun i => ns.getD i 0, rfl, W, st, hfp, fun i v hv => ints_at rv i v (by simpa using hv), fun s' t' m => ?_⟩
  obtain ⟨h', tk, rfl, hk'⟩ := PySem.W.moved_old e rfl m
  have e1 : preSum (fun i => ns.getD i 0) its.toArray.size = ns.sum := by
    rw [preSum_getD ns _ (by simp; omega), List.take_of_length_le (by simp; omega)]
  exact ⟨.int ns.sum, H, I.kept hk', ⟨t', by rw [e1]⟩, q⟩
def gSum2 : D → Option PR
  | .lst ds => (U.intsOf ds).map fun bs => .d (.int bs.sum)
  | .tup ds => (U.intsOf ds).map fun bs => .d (.int bs.sum)
  | _ => none
theorem cr_sum2 (hc : X.calm = true) : CallR X (.builtin "sum") (rC X.K (g1 gSum2)) := by
  intro pins s σ H xs us Q I rs ⟨F, ds, r, sb, n, hg, pw⟩
  obtain ⟨d, rfl, hg⟩ := g1_some hg
  obtain ⟨x, rfl, n1⟩ := n.one
  cases d <;> first | (cases hg; done) | skip
  · obtain ⟨bs, e1, rfl⟩ := map_some hg
    obtain ⟨a, vs, rfl, ha, r1⟩ := n1.tup sb
    rw [ints_rep r1 e1] at ha
    obtain ⟨u, rfl, ru⟩ := rs.one
    cases ru
    exact sum_tupR hc I (.of ha) (pw.scal sb (.int _))
  · obtain ⟨bs, e1, rfl⟩ := map_some hg
    obtain ⟨a, vs, rfl, ha, r1⟩ := n1.lst sb
    rw [ints_rep r1 e1] at ha
    exact cr_sum hc pins s σ H _ us Q I rs ⟨a, bs, rfl, .of ha, pw.scal sb (.int _)⟩
def minI : Int → List Int → Int
  | m, [] => m
  | m, n :: ns => minI (if n < m then n else m) ns
def maxI : Int → List Int → Int
  | m, [] => m
  | m, n :: ns => maxI (if m < n then n else m) ns
theorem minI_le : ∀ (ns : List Int) (m : Int), minI m ns ≤ m ∧ ∀ n ∈ ns, minI m ns ≤ n
  | [], m => ⟨Int.le_refl _, fun n h => by cases h⟩
  | k :: ns, m => by
    obtain ⟨h1, h2⟩ := minI_le ns (if k < m then k else m)
    have hk : (if k < m then k else m) ≤ m ∧ (if k < m then k else m) ≤ k := by split <;> omega
    unfold minI
    refine ⟨Int.le_trans h1 hk.1, fun n hn => ?_⟩
    rcases List.mem_cons.mp hn with rfl | hn
    · exact Int.le_trans h1 hk.2
    · exact h2 n hn
theorem maxI_le : ∀ (ns : List Int) (m : Int), m ≤ maxI m ns ∧ ∀ n ∈ ns, n ≤ maxI m ns
  | [], m => ⟨Int.le_refl _, fun n h => by cases h⟩
  | k :: ns, m => by
    obtain ⟨h1, h2⟩ := maxI_le ns (if m < k then k else m)
    have hk : m ≤ (if m < k then k else m) ∧ k ≤ (if m < k then k else m) := by split <;> omega
    unfold maxI
    refine ⟨Int.le_trans hk.1 h1, fun n hn => ?_⟩
    rcases List.mem_cons.mp hn with rfl | hn
    · exact Int.le_trans hk.2 h1
    · exact h2 n hn
theorem minI_mem : ∀ (ns : List Int) (m : Int), minI m ns = m ∨ minI m ns ∈ ns
  | [], m => .inl rfl
  | k :: ns, m => by
    unfold minI
    rcases minI_mem ns (if k < m then k else m) with h | h
    · rw [h]; split
      · exact .inr (List.mem_cons_self ..)
      · exact .inl rfl
    · exact .inr (List.mem_cons_of_mem _ h)
theorem maxI_mem : ∀ (ns : List Int) (m : Int), maxI m ns = m ∨ maxI m ns ∈ ns
  | [], m => .inl rfl
  | k :: ns, m => by
    unfold maxI
    rcases maxI_mem ns (if m < k then k else m) with h | h
    · rw [h]; split
      · exact .inr (List.mem_cons_self ..)
      · exact .inl rfl
    · exact .inr (List.mem_cons_of_mem _ h)
def gMin : List D → Option PR
  | [.lst ds] => (match U.intsOf ds with
    | some (n :: ns) => some (.d (.int (minI n ns)))
    | _ => none)
  | [.int i, .int j] => some (.d (.int (if j < i then j else i)))
  | _ => none
def gMax : List D → Option PR
  | [.lst ds] => (match U.intsOf ds with
    | some (n :: ns) => some (.d (.int (maxI n ns)))
    | _ => none)
  | [.int i, .int j] => some (.d (.int (if j > i then j else i)))
  | _ => none
theorem cr_minU (hc : X.calm = true) : CallR X (.builtin "min") (rC X.K gMin) := by
  intro pins s σ H xs us Q I rs ⟨F, ds, r, sb, n, hg, pw⟩
  unfold gMin at hg
  split at hg
  · rename_i es
    obtain ⟨x, rfl, n1⟩ := n.one
    split at hg
    · rename_i k ns e1
      cases hg
      obtain ⟨a, vs, rfl, ha, r1⟩ := n1.lst sb
      rw [ints_rep r1 e1] at ha
      refine cr_min hc pins s σ H _ us Q I rs ⟨a, k :: ns, rfl, .of ha, by simp, fun m hm hle => ?_⟩
      have h1 := minI_le ns k
      have : m = minI k ns := by
        have a1 := hle (minI k ns) ((minI_mem ns k).elim (fun q => by rw [q]; exact List.mem_cons_self ..) fun q => List.mem_cons_of_mem _ q)
        have a2 : minI k ns ≤ m := by
          rcases List.mem_cons.mp hm with rfl | hm
          · exact h1.1
          · exact h1.2 m hm
        omega
      rw [this]; exact pw.scal sb (.int _)
    · cases hg
  · obtain ⟨x, y, rfl, n1, n2⟩ := n.two
    cases hg
    exact call_min2 hc pins s σ H _ us Q I rs ⟨_, _, by rw [n1.int, n2.int], pw.scal sb (.int _)⟩
  · cases hg
theorem cr_maxU (hc : X.calm = true) : CallR X (.builtin "max") (rC X.K gMax) := by
  intro pins s σ H xs us Q I rs ⟨F, ds, r, sb, n, hg, pw⟩
  unfold gMax at hg
  split at hg
  · rename_i es
    obtain ⟨x, rfl, n1⟩ := n.one
    split at hg
    · rename_i k ns e1
      cases hg
      obtain ⟨a, vs, rfl, ha, r1⟩ := n1.lst sb
      rw [ints_rep r1 e1] at ha
      refine cr_max hc pins s σ H _ us Q I rs ⟨a, k :: ns, rfl, .of ha, by simp, fun m hm hle => ?_⟩
      have h1 := maxI_le ns k
      have : m = maxI k ns := by
        have a1 := hle (maxI k ns) ((maxI_mem ns k).elim (fun q => by rw [q]; exact List.mem_cons_self ..) fun q => List.mem_cons_of_mem _ q)
        have a2 : m ≤ maxI k ns := by
          rcases List.mem_cons.mp hm with rfl | hm
          · exact h1.1
          · exact h1.2 m hm
        omega
      rw [this]; exact pw.scal sb (.int _)
    · cases hg
  · obtain ⟨x, y, rfl, n1, n2⟩ := n.two
    cases hg
    exact call_max2 hc pins s σ H _ us Q I rs ⟨_, _, by rw [n1.int, n2.int], pw.scal sb (.int _)⟩
  · cases hg
end
/-! ### a op b op c -/
section
variable {px : PX} {W : WX} {X : Cx} {pos : Pos} {a b c : Expr} {g g' : D → D → Option PR} {fa fb fc : T → Rs BR}
def sChain (g g' : D → D → Option PR) (fa fb fc : T → Rs BR) : T → Rs PR := fun τ => (fa τ).bind fun x τ1 => (fb τ1).bind fun y τ2 => (ap2 g x y τ2).bind fun r τ3 => match r with
  | .d (.bl true) => (fc τ3).bind fun z τ4 => ap2 g' y z τ4
  | .d (.bl false) => .ok (.d (.bl false)) τ3
  | _ => .stuck
theorem rd_chain {K : PySem.W.Frag} {σ : St} {H : Hp} {Q : VK} (h : rdX K px W (sChain g g' fa fb fc) σ H Q) : tChain (r2 K g) (r2 K g') (rdB K px W fa) (rdB K px W fb) (rdB K px W fc) σ H Q := by
  obtain ⟨M, F, τ, s, p⟩ := h
  refine rdB_bind s p fun x τ1 F1 H1 v g1 s1 rv p1 => rdB_bind s1 p1 fun y τ2 F2 H2 u g2 s2 ru p2 => ?_
  obtain ⟨d, e, r, e1, e2, e3, p3⟩ : ∃ d e r, x.at τ2 = some d ∧ y.at τ2 = some e ∧ g d e = some r ∧ ap2 g x y τ2 = .ok r τ2 := by
    unfold ap2 at p2 ⊢
    cases q1 : x.at τ2 with
    | none => simp only [q1] at p2; exact p2.elim
    | some d => cases q2 : y.at τ2 with
      | none => simp only [q1, q2] at p2; exact p2.elim
      | some e =>
        cases q3 : g d e with
        | none => simp only [q1, q2, q3] at p2; exact p2.elim
        | some r => exact ⟨d, e, r, rfl, rfl, q3, by simp only [q3]⟩
  rw [p3] at p2
  refine ⟨F2, d, e, r, s2.sub, (rv.mono g2.frz).now s2 e1, ru.now s2 e2, e3, ?_⟩
  have p2 : Post K px W M F2 H2 σ (match r with
    | .d (.bl true) => (fc τ2).bind fun z τ4 => ap2 g' y z τ4
    | .d (.bl false) => .ok (.d (.bl false)) τ2
    | _ => .stuck) (RX K M σ Q) := p2
  cases r with
  | o z => exact p2.elim
  | d z =>
    cases z with
    | bl k =>
      intro w F3 H3 n3 rw'
      cases rw'
      refine ⟨k, rfl, ?_⟩
      have g3 : Grow M F2 H2 F3 H3 := n3.grow
      have s3 := n3.srel s2
      cases k with
      | true =>
        rw [if_pos rfl]
        refine rdB_bind s3 (Post.from p2 g3) fun z τ4 F4 H4 w g4 s4 rw' p4 => ?_
        obtain ⟨d', e', r', e1', e2', e3', p5⟩ := ap2_ok p4
        exact ⟨F4, d', e', r', s4.sub, (ru.mono (g3.frz.trans g4.frz)).now s4 e1', rw'.now s4 e2', e3', p5.pw s4⟩
      | false =>
        rw [if_neg Bool.false_ne_true]
        exact p2 F3 H3 g3 s3 _ (.bl false)
    | _ => exact p2.elim
theorem jx_chain {op op' : CmpOp} (ho : OpR X (compareOp op) (r2 X.K g)) (ho' : OpR X (compareOp op') (r2 X.K g')) (ha : JB px W X a fa) (hb : JB px W X b fb) (hc : JB px W X c fc) (hm : lastMarks [op, op'] [b, c] = false) :
    JX px W X (.Compare a [op, op'] [b, c] pos) (sChain g g' fa fb fc) := PE.imp (pe_chain ho ho' ha hb hc hm) fun σ H Q h => rd_chain h
theorem jt_chain {op op' : CmpOp} (ho : OpR X (compareOp op) (r2 X.K g)) (ho' : OpR X (compareOp op') (r2 X.K g')) (ha : JB px W X a fa) (hb : JB px W X b fb) (hc : JB px W X c fc) (hm : lastMarks [op, op'] [b, c] = false) :
    JT px W X (.Compare a [op, op'] [b, c] pos) (sTB (sChain g g' fa fb fc)) := PT.imp (pt_chain ho ho' ha hb hc hm) fun σ H Q h => rd_chain (rd_tb h)
end
end U
end

section
set_option Elab.async false
set_option linter.all false
set_option maxRecDepth 100000
namespace U
open PySem PySem.Spec PyProof.Rows L2

/-! ### isinstance -/
def D.ty : D → Option String
  | .non => some "NoneType"
  | .bl _ => some "bool"
  | .int _ => some "int"
  | .str _ => some "str"
  | .tup _ => some "tuple"
  | .lst _ => some "list"
  | .ptp _ => some "tuple"
  | _ => none
theorem Now.tyX {K : PySem.W.Frag} {F H : Hp} {v : V} {d : D} {t : String} (s : Sub F H) (n : Now K F H v d) (e : d.ty = some t) : TyX K H v (.type t) := by
  cases d with
  | non => cases e; rw [n.non]; exact .base .non
  | bl b => cases e; rw [n.bl]; exact .base (.bl _)
  | int b => cases e; rw [n.int]; exact .base (.int _)
  | str b => cases e; rw [n.str]; exact .base (.str _)
  | tup b => cases e; obtain ⟨a, vs, rfl, h, _⟩ := n.tup s; exact .base (.tup h)
  | lst b => cases e; obtain ⟨a, vs, rfl, h, _⟩ := n.lst s; exact .base (.lst h)
  | ptp b => cases e; obtain ⟨a, o, vs, rfl, h, _⟩ := n.ptp s; exact .fTuple h
  | _ => cases e
section
variable {px : PX} {W : WX} {X : Cx} {pos : Pos} {e : Expr}
theorem pe_tyn {x : Str} {id : String} (hg : Gl X x) (hm : X.mg x = none) (hv : bootBuiltins x = some (.type id)) (hn : x ≠ "__name__") (hdb : (x == ("__debug__" : Str)) = false) : PE X (.Name x pos) (tC (.ty id)) :=
  ⟨fun pins s σ H Q I h => ld_blt I hg hm hv ⟨.ty id, H, I, rfl, h⟩ hn hdb⟩
def isB (t : String) (cs : List String) : Bool := cs.any fun c => t == c || (t == "bool" && c == "int")
def sIsi (cs : List String) (f : T → Rs BR) : T → Rs PR := fun τ => (f τ).bind fun x τ1 => match x.at τ1 with
  | some d => (match d.ty with
    | some t => .ok (.d (.bl (isB t cs))) τ1
    | none => .stuck)
  | none => .stuck
def tys : List String := ["NoneType", "bool", "int", "str", "tuple", "list"]
def cls6 : List String := ["bool", "int", "str", "tuple", "list", "dict"]
theorem ty_mem {d : D} {t : String} (h : d.ty = some t) : t ∈ tys := by cases d <;> cases h <;> simp [tys]
theorem kit_all : ∀ t ∈ tys, ∀ c ∈ cls6, kitB t c = some (isB t [c]) := by decide +kernel
theorem kit_any {K : PySem.W.Frag} {t : String} (ht : t ∈ tys) : ∀ cs : List String, (∀ c ∈ cs, c ∈ cls6) → PySem.W.kitAny K (.type t) (cs.map Value.type) = some (isB t cs)
  | [], _ => rfl
  | c :: cs, h => by
    have h1 := kit_all t ht c (h c (List.mem_cons_self ..))
    have h2 := kit_any (K := K) ht cs fun z hz => h z (List.mem_cons_of_mem _ hz)
    have e1 : isB t (c :: cs) = (isB t [c] || isB t cs) := by simp [isB]
    refine kitAny_cons (kit_ty h1) (fun q => ?_) fun q => ?_
    · rw [h2, e1, q]; rfl
    · rw [e1, q]; rfl
theorem jx_isi1 {f : T → Rs BR} {x : Str} {c : String} {p p2 : Pos} (hg : Gl X "isinstance") (hm : X.mg "isinstance" = none) (ha : JB px W X e f) (hgx : Gl X x) (hmx : X.mg x = none) (hv : bootBuiltins x = some (.type c)) (hc : c ∈ cls6) (hn : x ≠ "__name__") (hdb : (x == ("__debug__" : Str)) = false)
    (he : starEach [e, .Name x p2] X.env = (false, eval e X.env) :: starEach [.Name x p2] X.env) :
    JX px W X (.Call (.Name "isinstance" p) [e, .Name x p2] [] pos) (sIsi [c] f) := by
  refine PE.imp (pe_callB call_isi hg hm boot_isinstance (pa_cons ha (pa_cons (pe_tyn hgx hmx hv hn hdb) pa_nil rfl) he) (by decide) (by decide) he rfl) fun σ H Q ⟨M, F, τ, s, p⟩ => ?_
  refine rdB_bind s p fun b τ1 F1 H1 v g1 s1 rv p1 => ?_
  show rIsi X.K [v, .ty c] H1 Q
  cases e1 : b.at τ1 with
  | none => simp only [e1] at p1; exact p1.elim
  | some d =>
    simp only [e1] at p1
    cases e2 : d.ty with
    | none => simp only [e2] at p1; exact p1.elim
    | some t =>
      simp only [e2] at p1
      exact ⟨v, .ty c, .type t, .type c, _, rfl, .ty c, (rv.now s1 e1).tyX s1.sub e2, kit_ty (kit_all t (ty_mem e2) c hc), p1 F1 H1 .refl s1 _ (.bl _)⟩
theorem jx_isi2 {f : T → Rs BR} {x y : Str} {c c' : String} {p p2 p3 p4 : Pos} {k : Nat} (hg : Gl X "isinstance") (hm : X.mg "isinstance" = none) (ha : JB px W X e f) (hgx : Gl X x) (hmx : X.mg x = none) (hv : bootBuiltins x = some (.type c)) (hc : c ∈ cls6) (hn : x ≠ "__name__") (hdb : (x == ("__debug__" : Str)) = false)
    (hgy : Gl X y) (hmy : X.mg y = none) (hvy : bootBuiltins y = some (.type c')) (hc' : c' ∈ cls6) (hny : y ≠ "__name__") (hdby : (y == ("__debug__" : Str)) = false)
    (he : starEach [e, .Tuple [.Name x p2, .Name y p3] k p4] X.env = (false, eval e X.env) :: starEach [.Tuple [.Name x p2, .Name y p3] k p4] X.env) :
    JX px W X (.Call (.Name "isinstance" p) [e, .Tuple [.Name x p2, .Name y p3] k p4] [] pos) (sIsi [c, c'] f) := by
  refine PE.imp (pe_callB call_isiT hg hm boot_isinstance (pa_cons ha (pa_cons (pe_tup (pa_cons (pe_tyn hgx hmx hv hn hdb) (pa_cons (pe_tyn hgy hmy hvy hny hdby) pa_nil rfl) rfl)) pa_nil rfl) he) (by decide) (by decide) he rfl) fun σ H Q ⟨M, F, τ, s, p⟩ => ?_
  refine rdB_bind s p fun b τ1 F1 H1 v g1 s1 rv p1 => ⟨by show 2 ≤ sizeLine; decide, fun tp htp => ?_⟩
  show rIsiT X.K [v, .ref tp] (upd H1 tp (.tup [.ty c, .ty c'])) Q
  cases e1 : b.at τ1 with
  | none => simp only [e1] at p1; exact p1.elim
  | some d =>
    simp only [e1] at p1
    cases e2 : d.ty with
    | none => simp only [e2] at p1; exact p1.elim
    | some t =>
      simp only [e2] at p1
      have s2 := s1.alloc (o := .tup [.ty c, .ty c']) htp
      exact ⟨v, tp, [.ty c, .ty c'], .type t, [.type c, .type c'], _, rfl, upd_same, .cons (.ty c) (.cons (.ty c') .nil), (rv.now s2 e1).tyX s2.sub e2, kit_any (ty_mem e2) [c, c'] (by simp [hc, hc']), p1 F1 _ (grow_alloc htp) s2 _ (.bl _)⟩

/-! ### methods that change a list -/
def mAppend : OV → List D → Option (D × OV)
  | .l ds, [d] => if ds.length < lim then some (.non, .l (ds ++ [d])) else none
  | _, _ => none
def mPopAt : OV → List D → Option (D × OV)
  | .l ds, [.int i] => if i.natAbs < 2 ^ 63 then (match seqIndex? i ds.length with
    | some k => (ds[k]?).map fun d => (d, .l (ds.eraseIdx k))
    | none => none) else none
  | _, _ => none
def mPop : OV → List D → Option (D × OV)
  | .l ds, [] => (ds[ds.length - 1]?).map fun d => (d, .l ds.dropLast)
  | _, _ => none
/-- what a method does to the object at a -/
def MtO (X : Cx) (id : String) (g : OV → List D → Option (D × OV)) : Prop :=
  MtM X id (fun x xs H Q => ∃ F a u o ds d o', x = .ref a ∧ Sub F H ∧ H a = some u ∧ F a = none ∧ OwnO X.K F o u ∧ RepL X.K F xs ds ∧ g o ds = some (d, o') ∧ ∀ v u', OwnO X.K F o' u' → Rep X.K F v d → Q v (upd H a u'))
theorem mo_append : MtO X "list.append" mAppend := by
  intro pins s σ H x xs v us Q I rx rs ⟨F, a, u, o, ds, d, o', ex, sb, hu, hf, ho, rl, hg, q⟩
  cases ho with
  | l r =>
    match ds, rl, hg with
    | [z], .cons rz .nil, hg =>
      obtain ⟨c, e⟩ := ite_some hg
      cases e
      exact mt_append pins s σ H x _ v us Q I rx rs ⟨a, _, _, ex, rfl, hu, by rw [r.length]; exact lim_lt c, q _ _ (.l (r.append (.cons rz .nil))) .non⟩
  | dK _ _ => cases hg
  | dT _ _ => cases hg
theorem mo_popAt : MtO X "list.pop" mPopAt := by
  intro pins s σ H x xs v us Q I rx rs ⟨F, a, u, o, ds, d, o', ex, sb, hu, hf, ho, rl, hg, q⟩
  cases ho with
  | @l es vs r =>
    match ds, rl, hg with
    | [.int i], .cons rz .nil, hg =>
      have hg : (if i.natAbs < 2 ^ 63 then (match seqIndex? i es.length with
        | some k => (es[k]?).map fun d => (d, OV.l (es.eraseIdx k))
        | none => none) else none) = some (d, o') := hg
      by_cases c : i.natAbs < 2 ^ 63
      · rw [if_pos c] at hg
        cases hk : seqIndex? i es.length with
        | none => rw [hk] at hg; cases hg
        | some k =>
          rw [hk] at hg
          obtain ⟨z, hz, e⟩ := map_some hg
          cases e
          obtain ⟨y, hy, ry⟩ := r.get hz
          cases rz
          exact mt_popAt pins s σ H x _ v us Q I rx rs ⟨a, _, i, k, y, ex, rfl, hu, by omega, by omega, by rw [r.length]; exact hk, hy, q _ _ (.l (r.eraseIdx k)) ry⟩
      · rw [if_neg c] at hg; cases hg
  | dK _ _ => cases hg
  | dT _ _ => cases hg
theorem RepL.dropLast {K : PySem.W.Frag} {F : Hp} {vs : List V} {ds : List D} (h : RepL K F vs ds) : RepL K F vs.dropLast ds.dropLast := by
  rw [List.dropLast_eq_take, List.dropLast_eq_take, h.length]; exact h.take _
theorem mo_pop : MtO X "list.pop" mPop := by
  intro pins s σ H x xs v us Q I rx rs ⟨F, a, u, o, ds, d, o', ex, sb, hu, hf, ho, rl, hg, q⟩
  cases ho with
  | l r =>
    match ds, rl, hg with
    | [], .nil, hg =>
      obtain ⟨z, hz, e⟩ := map_some hg
      cases e
      obtain ⟨y, hy, ry⟩ := r.get hz
      exact mt_pop pins s σ H x _ v us Q I rx rs ⟨a, _, y, ex, rfl, hu, by rw [r.length]; exact hy, q _ _ (.l r.dropLast) ry⟩
  | dK _ _ => cases hg
  | dT _ _ => cases hg
def sMeth (i : Nat) (g : OV → List D → Option (D × OV)) (fa : T → Rs (List D)) : T → Rs PR := fun τ => match τ[i]? with
  | some s0 => (match s0.mut with
    | some (.l _) => (fa τ).bind fun ds τ1 => (match τ1[i]? with
      | some s1 => (match s1.mut with
        | some o => (match g o ds with
          | some (d, o') => .ok (.d d) (τ1.set i (s1.put o'))
          | none => .stuck)
        | none => .stuck)
      | none => .stuck)
    | _ => .stuck)
  | none => .stuck
theorem rd_meth {K : PySem.W.Frag} {i : Nat} {g : OV → List D → Option (D × OV)} {fa : T → Rs (List D)} {σ : St} {H : Hp} {Q : VK} (h : rdX K px W (sMeth i g fa) σ H Q) :
    ∃ a, σ[i]? = some (some (V.ref a)) ∧ (∃ xs, SqL K H a xs) ∧ rdA K px W fa σ H fun xs H2 => ∃ F a' u o ds d o', V.ref a = .ref a' ∧ Sub F H2 ∧ H2 a' = some u ∧ F a' = none ∧ OwnO K F o u ∧ RepL K F xs ds ∧ g o ds = some (d, o') ∧ ∀ v u', OwnO K F o' u' → Rep K F v d → Q v (upd H2 a' u') := by
  obtain ⟨M, F, τ, s, p⟩ := h
  unfold sMeth at p
  cases e0 : τ[i]? with
  | none => rw [e0] at p; exact p.elim
  | some s0 =>
    simp only [e0] at p
    cases m0 : s0.mut with
    | none => rw [m0] at p; exact p.elim
    | some ov =>
      simp only [m0] at p
      cases ov with
      | d _ _ _ => exact p.elim
      | l es =>
        obtain ⟨a, u, h1, h2, h3, h4, h5⟩ := s.own i s0 _ e0 m0
        refine ⟨a, h1, ?_, M, F, τ, s, p.bind.imp fun ds τ1 F1 H1 g1 s1 p1 vs rvs => ?_⟩
        · cases h5 with
          | l r => exact ⟨_, .of h2⟩
        · cases e1 : τ1[i]? with
          | none => simp only [e1] at p1; exact p1.elim
          | some sl =>
            simp only [e1] at p1
            cases m1 : sl.mut with
            | none => simp only [m1] at p1; exact p1.elim
            | some o =>
              simp only [m1] at p1
              cases eg : g o ds with
              | none => simp only [eg] at p1; exact p1.elim
              | some z =>
                obtain ⟨d, o'⟩ := z
                simp only [eg] at p1
                obtain ⟨a1, u1, q1, q2, q3, q4, q5⟩ := s1.own i sl o e1 m1
                rw [h1] at q1
                cases q1
                refine ⟨F1, a, u1, o, ds, d, o', rfl, s1.sub, q2, q3, q5, rvs, eg, fun v u' ho' rv => ?_⟩
                obtain ⟨gw, sw⟩ := s1.write e1 m1 h1 q2 q3 q4 ho'
                exact p1 F1 _ gw sw v rv
variable {x : Str} {xp apos cpos : Pos} {es : List Expr}
theorem jx_meth {i : Nat} {name : Str} {id : String} {g : OV → List D → Option (D × OV)} {fa : T → Rs (List D)} (slot : Slot "list" name id) (hty : typeOf (.builtin id) = pure (.type "method_descriptor")) (hm : MtO X id g) (ho : PE X (.Name x xp) (tVar i)) (ha : JA px W X (e :: es) fa)
    (hbase : attributeBase (.Name x xp) name X.env (eval (.Name x xp) X.env) = eval (.Name x xp) X.env)
    (hfew : ((backTo cpos (starEach (e :: es) X.env)).all (fun x => !x.1) && (backToKw cpos (keywordEach [] X.env)).all (fun x => x.1.isSome) && decide ((e :: es).length + ([] : List Keyword).length + (if ([] : List Keyword).isEmpty then 0 else 1) < 30)) = true)
    (hline : (apos.endLine == cpos.line) = true) (hs : starEach (e :: es) X.env = (false, eval e X.env) :: starEach es X.env) (hplain : (backTo cpos (starEach es X.env)).any (·.1) = false) :
    JX px W X (.Call (.Attribute (.Name x xp) name apos) (e :: es) [] cpos) (sMeth i g fa) :=
  PE.imp (pe_bm PySem.F.plainAttrs_list slot hty hm ho ha hbase hfew hline hs hplain) fun σ H Q h => by
    obtain ⟨a, h1, h2, h3⟩ := rd_meth h
    exact ⟨_, h1, .inl ⟨rfl, h2⟩, h3⟩
theorem jx_meth0 {i : Nat} {name : Str} {id : String} {g : OV → List D → Option (D × OV)} (slot : Slot "list" name id) (hty : typeOf (.builtin id) = pure (.type "method_descriptor")) (hm : MtO X id g) (ho : PE X (.Name x xp) (tVar i))
    (hbase : attributeBase (.Name x xp) name X.env (eval (.Name x xp) X.env) = eval (.Name x xp) X.env) (hline : (apos.endLine == cpos.line) = true) :
    JX px W X (.Call (.Attribute (.Name x xp) name apos) [] [] cpos) (sMeth i g sNil) :=
  PE.imp (pe_bm0 PySem.F.plainAttrs_list slot hty hm ho hbase hline) fun σ H Q h => by
    obtain ⟨a, h1, h2, M, F, τ, s, p⟩ := rd_meth h
    exact ⟨_, h1, .inl ⟨rfl, h2⟩, p F H .refl s [] .nil⟩
/-! ### x[i] = .. -/
def sStore (i : Nat) (fe fi : T → Rs D) : T → SR := fun τ => (fe τ).s fun d τ1 => match τ1[i]? with
  | some s1 => (match s1.mut with
    | some (.l _) => (fi τ1).s fun k τ2 => (match τ2[i]? with
      | some s2 => (match s2.mut, k with
        | some (.l ds), .int j => (match ixN ds.length j with
          | some m => .nx (τ2.set i (s2.put (.l (ds.set m d))))
          | none => .stuck)
        | _, _ => .stuck)
      | none => .stuck)
    | _ => .stuck)
  | none => .stuck
theorem js_store {i : Nat} {ie : Expr} {p2 spos : Pos} {fe fi : T → Rs D} (ho : PE X (.Name x xp) (tVar i)) (hi : JE px W X ie fi) (he : JE px W X e fe)
    (ha : ∀ v, assign (.Subscript (.Name x xp) ie p2) X.env v = (do
      let ov ← holding [v] (eval (.Name x xp) X.env)
      let iv ← holding [v, ov] (eval ie X.env)
      standAt p2
      holding [v, ov, iv] (setItem ov iv v)
      release [v, ov, iv] []))
    (hs : swapsWithSole [.Subscript (.Name x xp) ie p2] e spos.line X.env = pure false) (hw : swappedStores [.Subscript (.Name x xp) ie p2] e X.env = pure none) (h1 : (assignEach [.Subscript (.Name x xp) ie p2] X.env).map (·.2) = [assign (.Subscript (.Name x xp) ie p2) X.env]) :
    JS px W X (.Assign [.Subscript (.Name x xp) ie p2] e spos) (sStore i fe fi) := by
  refine PS.imp (ps_asg he (pg_sub ho hi set_list ha) hs hw h1) fun D σ H ⟨M, F, τ, s, p⟩ => ?_
  refine rdE_s s p fun d τ1 F1 H1 v g1 s1 rv q => ?_
  cases e1 : τ1[i]? with
  | none => simp only [e1] at q; exact q.elim
  | some sl =>
    simp only [e1] at q
    cases m1 : sl.mut with
    | none => simp only [m1] at q; exact q.elim
    | some ov =>
      simp only [m1] at q
      cases ov with
      | d _ _ _ => exact q.elim
      | l ds =>
        obtain ⟨a, u, h1, h2, h3, h4, h5⟩ := s1.own i sl _ e1 m1
        refine ⟨_, h1, rdE_s s1 q fun k τ2 F2 H2 w g2 s2 rk q2 => ?_⟩
        cases e2 : τ2[i]? with
        | none => simp only [e2] at q2; exact q2.elim
        | some sl2 =>
          simp only [e2] at q2
          cases m2 : sl2.mut with
          | none => simp only [m2] at q2; exact q2.elim
          | some ov2 =>
            cases ov2 with
            | d _ _ _ => simp only [m2] at q2; exact q2.elim
            | l es2 =>
              cases k with
              | int j =>
                simp only [m2] at q2
                cases ek : ixN es2.length j with
                | none => simp only [ek] at q2; exact q2.elim
                | some m =>
                  simp only [ek] at q2
                  obtain ⟨a2, u2, r1, r2, r3, r4, r5⟩ := s2.own i sl2 _ e2 m2
                  rw [h1] at r1
                  cases r1
                  cases rk
                  cases r5 with
                  | l rr =>
                    refine ⟨a, _, j, m, rfl, rfl, r2, by rw [rr.length]; exact ek, ?_⟩
                    obtain ⟨gw, sw⟩ := s2.write (o' := .l (es2.set m d)) e2 m2 h1 r2 r3 r4 (.l (rr.set (rv.mono g2.frz) m))
                    exact q2 σ F2 _ gw sw
              | _ => simp only [m2] at q2; exact q2.elim
/-! ### unpacking, returning, nothing -/
def sUnp (g : D → T → Option T) (fe : T → Rs D) : T → SR := fun τ => (fe τ).s fun d τ1 => match g d τ1 with
  | some τ2 => .nx τ2
  | none => .stuck
theorem js_unp {tg : Expr} {gs : List Nat} {g : D → T → Option T} {fe : T → Rs D} {spos : Pos} (hg : JG X tg gs g) (he : JE px W X e fe) (hs : swapsWithSole [tg] e spos.line X.env = pure false) (hw : swappedStores [tg] e X.env = pure none) (h1 : (assignEach [tg] X.env).map (·.2) = [assign tg X.env]) :
    JS px W X (.Assign [tg] e spos) (sUnp g fe) := by
  refine PS.imp (ps_asg he hg hs hw h1) fun D σ H ⟨M, F, τ, s, p⟩ => ?_
  refine rdE_s s p fun d τ1 F1 H1 v g1 s1 rv q => ?_
  cases eg : g d τ1 with
  | none => simp only [eg] at q; exact q.elim
  | some τ2 =>
    simp only [eg] at q
    exact ⟨M, F1, τ1, d, τ2, s1, rv, eg, fun σ' _ s' => q σ' F1 H1 .refl s'⟩
def sRetV (i : Nat) : T → SR := fun τ => match τ[i]? with
  | some (.own o) => .rt (.o o) (τ.set i .no)
  | some (.val d) => .rt (.d d) τ
  | _ => .stuck
theorem js_retV {i : Nat} (h : PE X (.Name x xp) (tVar i)) : JS px W X (.Return (some (.Name x xp)) pos) (sRetV i) :=
  PS.imp (ps_ret h) fun D σ H ⟨M, F, τ, s, p⟩ => by
    unfold sRetV at p
    cases e : τ[i]? with
    | none => rw [e] at p; exact p.elim
    | some sl =>
      rw [e] at p
      cases sl with
      | no => exact p.elim
      | io o => exact p.elim
      | own o =>
        obtain ⟨a, hv, ow⟩ := s.own_at e rfl
        exact ⟨_, hv, p _ σ F H .refl (s.drop i) ow⟩
      | val d =>
        obtain ⟨v, hv, r⟩ := s.val i d e
        exact ⟨_, hv, p v σ F H .refl s r⟩
theorem js_stuck {st : Stmt} : JS px W X st (fun _ => .stuck) := ⟨fun pins s σ H D I ⟨M, F, τ, sr, p⟩ => p.elim⟩
end
end U
end

section
set_option Elab.async false
set_option linter.all false
set_option maxRecDepth 100000
namespace U
open PySem PySem.Spec PyProof.Rows L2

/-! ### a, b = x, y: owned objects stay owned -/
inductive PRL (K : PySem.W.Frag) (F H : Hp) (σ : St) (τ : T) : MS → List V → List PR → Prop
  | nil {M : MS} : PRL K F H σ τ M [] []
  | d {M : MS} {v : V} {vs : List V} {z : D} {rs : List PR} : Rep K F v z → PRL K F H σ τ M vs rs → PRL K F H σ τ M (v :: vs) (.d z :: rs)
  | o {M : MS} {a : Addr} {vs : List V} {z : OV} {rs : List PR} : OwnR K M F H σ τ (.ref a) z → PRL K F H σ τ (M.but a) vs rs → PRL K F H σ τ M (.ref a :: vs) (.o z :: rs)
def JAX (px : PX) (W : WX) (X : Cx) (es : List Expr) (f : T → Rs (List PR)) : Prop := PA X es (fun σ H Q => ∃ M F τ, SRel X.K M F H σ τ ∧ Post X.K px W M F H σ (f τ) fun rs τ' F' H' => ∀ vs, PRL X.K F' H' σ τ' M vs rs → Q vs H')
def sXNil : T → Rs (List PR) := fun τ => .ok [] τ
def sXCons (f : T → Rs PR) (g : T → Rs (List PR)) : T → Rs (List PR) := fun τ => (f τ).bind fun r τ1 => (g τ1).bind fun rs τ2 => .ok (r :: rs) τ2
section
variable {px : PX} {W : WX} {X : Cx} {e : Expr} {es : List Expr}
theorem jax_nil : JAX px W X [] sXNil := PA.imp pa_nil fun σ H Q ⟨M, F, τ, s, p⟩ => p F H .refl s _ .nil
theorem OwnR.later {K : PySem.W.Frag} {M : MS} {F H F1 H1 : Hp} {σ : St} {τ τ1 : T} {a : Addr} {o : OV} (h : OwnR K M F H σ τ (.ref a) o) (g : Grow (M.but a) F H F1 H1) (s : SRel K (M.but a) F1 H1 σ τ1) : OwnR K M F1 H1 σ τ1 (.ref a) o := by
  obtain ⟨b, u, e, h2, h3, h4, h5, h6⟩ := h
  cases e
  have na : ¬ (M.but a).m a := fun z => z.2 rfl
  refine ⟨a, u, rfl, g.keep a u h2 na, g.free a h3 (by rw [h2]; exact fun z => nomatch z) na, h4, h5.mono g.frz, fun i sl e m z => ?_⟩
  obtain ⟨o', e1⟩ := Option.ne_none_iff_exists'.mp m
  obtain ⟨b, w, p1, p2, p3, p4, p5⟩ := s.own i sl o' e e1
  rw [p1] at z
  cases z
  exact na p4
theorem jax_cons {f : T → Rs PR} {g : T → Rs (List PR)} (ha : JX px W X e f) (hr : JAX px W X es g) (hs : starEach (e :: es) X.env = (false, eval e X.env) :: starEach es X.env) : JAX px W X (e :: es) (sXCons f g) :=
  PA.imp (pa_cons ha hr hs) fun σ H Q ⟨M, F, τ, s, p⟩ => rdX_bind s p fun r τ1 F1 H1 v g1 s1 rv p1 => by
    cases r with
    | d z =>
      refine ⟨M, F1, τ1, s1, p1.bind.imp fun rs τ2 F2 H2 g2 s2 p2 vs rvs => p2 F2 H2 .refl s2 _ (.d (Rep.mono g2.frz rv) rvs)⟩
    | o z =>
      obtain ⟨a, u, ev, h2, h3, h4, h5, h6⟩ := id rv
      subst ev
      refine ⟨M.but a, F1, τ1, s1.but h2 h6, Post.less (M := M) (fun b h => h.1) (fun τ' F' H' g s => s.unbut) p1.bind fun rs τ2 F2 H2 gM gN s2 p2 vs rvs => ?_⟩
      exact p2 F2 H2 .refl s2.unbut _ (.o (OwnR.later rv gN s2) rvs)
def putAll : List Nat → List PR → T → Option T
  | [], [], τ => some τ
  | i :: is, r :: rs, τ => match putAll is rs τ with
    | some τ' => if notIo τ' i then some (τ'.set i r.slot) else none
    | none => none
  | _, _, _ => none
def sPar (is : List Nat) (fa : T → Rs (List PR)) : T → SR := fun τ => (fa τ).s fun rs τ1 => match putAll is rs τ1 with
  | some τ2 => .nx τ2
  | none => .stuck
def setAll : List Nat → List V → St → St
  | i :: is, v :: vs, σ => (setAll is vs σ).set i (some v)
  | _, _, σ => σ
theorem OwnR.setv {K : PySem.W.Frag} {M : MS} {F H : Hp} {σ : St} {τ : T} {v : V} {o : OV} {i : Nat} {w : V} {sl : Sl} (h : OwnR K M F H σ τ v o) (hne : sl.mut ≠ none → w ≠ v) : OwnR K M F H (σ.set i (some w)) (τ.set i sl) v o := by
  obtain ⟨a, u, e, h2, h3, h4, h5, h6⟩ := h
  subst e
  refine ⟨a, u, rfl, h2, h3, h4, h5, fun j s e m z => ?_⟩
  rcases get_set e with ⟨rfl, q, hl⟩ | ⟨q, e⟩
  · subst q
    by_cases hs : j < σ.length
    · rw [List.getElem?_set_self hs] at z
      have := Option.some.inj (Option.some.inj z)
      exact hne m this
    · rw [List.getElem?_eq_none (by rw [List.length_set]; omega)] at z; cases z
  · rw [List.getElem?_set_ne (Ne.symm q)] at z
    exact h6 j s e m z
theorem SRel.mono {K : PySem.W.Frag} {M : MS} {F H : Hp} {σ : St} {τ : T} {a : Addr} (s : SRel K (M.but a) F H σ τ) : SRel K M F H σ τ := s.unbut
/-- all stored: slots that hold owned objects hold those of the list, or those of before -/
theorem put_all {K : PySem.W.Frag} {F H : Hp} {σ : St} {τ : T} : ∀ {is : List Nat} {rs : List PR} {M : MS} {vs : List V} {τ2 : T}, SRel K M F H σ τ → PRL K F H σ τ M vs rs → putAll is rs τ = some τ2 → SRel K M F H (setAll is vs σ) τ2 ∧
    (∀ v o, OwnR K M F H σ τ v o → (∀ w z, (w, PR.o z) ∈ vs.zip rs → w ≠ v) → OwnR K M F H (setAll is vs σ) τ2 v o)
  | [], [], M, _, τ2, s, .nil, h => by cases h; exact ⟨s, fun v o ow _ => ow⟩
  | [], _ :: _, M, _, τ2, s, r, h => by cases h
  | _ :: _, [], M, _, τ2, s, r, h => by cases h
  | i :: is, _, M, _, τ2, s, .d (rs := rs) (v := v) (vs := vs) (z := z) rv rr, h => by
    unfold putAll at h
    cases e : putAll is rs τ with
    | none => rw [e] at h; cases h
    | some τ' =>
      simp only [e] at h
      obtain ⟨s1, k1⟩ := put_all s rr e
      by_cases c : notIo τ' i = true
      · rw [if_pos c] at h
        cases h
        refine ⟨s1.setv c rv, fun w o ow hne => ?_⟩
        exact (k1 w o ow fun w' z' hm => hne w' z' (List.mem_cons_of_mem _ hm)).setv (fun m => absurd rfl m)
      · rw [if_neg c] at h; cases h
  | i :: is, _, M, _, τ2, s, .o (rs := rs) (a := a) (vs := vs) (z := z) rv rr, h => by
    unfold putAll at h
    cases e : putAll is rs τ with
    | none => rw [e] at h; cases h
    | some τ' =>
      simp only [e] at h
      obtain ⟨b, u, ev, h2, h3, h4, h5, h6⟩ := id rv
      cases ev
      obtain ⟨s1, k1⟩ := put_all (s.but h2 h6) rr e
      have own1 : OwnR K M F H (setAll is vs σ) τ' (.ref a) z := by
        refine ⟨a, u, rfl, h2, h3, h4, h5, fun j sl ej m zz => ?_⟩
        obtain ⟨o', e1⟩ := Option.ne_none_iff_exists'.mp m
        obtain ⟨b', w, p1, p2, p3, p4, p5⟩ := s1.own j sl o' ej e1
        rw [p1] at zz
        cases zz
        exact p4.2 rfl
      by_cases c : notIo τ' i = true
      · rw [if_pos c] at h
        cases h
        refine ⟨s1.unbut.seto c own1, fun w o ow hne => ?_⟩
        obtain ⟨b', u', ew, q2, q3, q4, q5, q6⟩ := id ow
        subst ew
        have hab : V.ref a ≠ V.ref b' := hne (.ref a) z (List.mem_cons_self ..)
        have ow' : OwnR K (M.but a) F H σ τ (.ref b') o := ⟨b', u', rfl, q2, q3, ⟨q4, fun z => hab (by rw [z])⟩, q5, q6⟩
        have := k1 (.ref b') o ow' fun w' z' hm => hne w' z' (List.mem_cons_of_mem _ hm)
        obtain ⟨b2, u2, e2, r2, r3, r4, r5, r6⟩ := this
        cases e2
        exact OwnR.setv (⟨b', u2, rfl, r2, r3, r4.1, r5, r6⟩ : OwnR K M F H (setAll is vs σ) τ' (.ref b') o) (fun _ => hab)
      · rw [if_neg c] at h; cases h
/-! the statement -/
def tParN (is : List Nat) (ta : TA) : TS := fun D σ H => ta σ H fun vs H1 => vs.length = is.length ∧ D.nx (setAll is vs σ) H1
theorem store_all {pins : List (Addr × Obj)} {H : Hp} {E : Value → Shared → Prop} (hN : X.N.Nodup) : ∀ {rs : List (Nat × Str × V)} {us : List Value} {σ : St} {s : Shared} {R : Unit → Shared → Prop}, (∀ q ∈ rs, X.N[q.1]? = some q.2.1 ∧ X.env.scope.names.lookup q.2.1 = some .local) → Vals (rs.map (·.2.2)) us → Inv X pins σ H s →
    (∀ s', Inv X pins (rs.foldl (fun t q => t.set q.1 (some q.2.2)) σ) H s' → R () s') → wpAny (model X.prog X.w) X.A (assignInOrder (rs.map fun q => fun v => bindName X.env q.2.1 v) us) R E s
  | [], _, σ, s, R, _, .nil, I, h => assignInOrder_nil (h s I)
  | q :: rs, _, σ, s, R, hq, .cons r rr, I, h => by
    obtain ⟨h1, h2⟩ := hq q (List.mem_cons_self ..)
    refine assignInOrder_cons (wpAny_bindName (store_ok I hN h1 (.inl h2) r (fun s2 I2 => ?_) (.inr h2)))
    exact store_all (E := E) (R := R) hN (fun p hp => hq p (List.mem_cons_of_mem _ hp)) rr I2 h
/-- the places, the names, the values -/
def trip : List Nat → List Str → List V → List (Nat × Str × V)
  | i :: is, x :: xs, v :: vs => (i, x, v) :: trip is xs vs
  | _, _, _ => []
theorem trip_mem : ∀ {is : List Nat} {xs : List Str} {vs : List V} {q : Nat × Str × V}, q ∈ trip is xs vs → (q.1, q.2.1) ∈ is.zip xs
  | i :: is, x :: xs, v :: vs, q, h => by
    rcases List.mem_cons.mp (show q ∈ (i, x, v) :: trip is xs vs from h) with e | e
    · rw [e]; exact List.mem_cons_self ..
    · exact List.mem_cons_of_mem _ (trip_mem e)
  | [], _, _, q, h => by simp [trip] at h
  | _ :: _, [], _, q, h => by simp [trip] at h
  | _ :: _, _ :: _, [], q, h => by simp [trip] at h
theorem trip_names : ∀ {is : List Nat} {xs : List Str} {vs : List V}, is.length = xs.length → vs.length = is.length → (trip is xs vs).map (·.2.1) = xs ∧ (trip is xs vs).map (·.2.2) = vs
  | [], [], [], _, _ => ⟨rfl, rfl⟩
  | i :: is, x :: xs, v :: vs, h1, h2 => by
    obtain ⟨a, b⟩ := trip_names (is := is) (xs := xs) (vs := vs) (by simpa using h1) (by simpa using h2)
    exact ⟨by simp [trip, a], by simp [trip, b]⟩
  | [], _ :: _, _, h1, _ => by simp at h1
  | _ :: _, [], _, h1, _ => by simp at h1
  | [], [], _ :: _, _, h2 => by simp at h2
  | _ :: _, _ :: _, [], _, h2 => by simp at h2
theorem trip_set : ∀ {is : List Nat} {xs : List Str} {vs : List V} {σ : St}, is.length = xs.length → vs.length = is.length → (trip is xs vs).foldr (fun q t => t.set q.1 (some q.2.2)) σ = setAll is vs σ
  | [], [], [], σ, _, _ => rfl
  | i :: is, x :: xs, v :: vs, σ, h1, h2 => by
    have := trip_set (is := is) (xs := xs) (vs := vs) (σ := σ) (by simpa using h1) (by simpa using h2)
    show (List.foldr _ σ (trip is xs vs)).set i (some v) = _
    rw [this]; rfl
  | [], _ :: _, _, _, h1, _ => by simp at h1
  | _ :: _, [], _, _, h1, _ => by simp at h1
  | [], [], _ :: _, _, _, h2 => by simp at h2
  | _ :: _, _ :: _, [], _, _, h2 => by simp at h2
theorem ps_parN {is : List Nat} {xs : List Str} {ts vs0 : List Expr} {ta : TA} {pt : Pos} {kt k2 : Nat} {pt2 pos : Pos} (hc : X.calm = true) (hN : X.N.Nodup) (hl : is.length = xs.length) (hi : ∀ q ∈ is.zip xs, X.N[q.1]? = some q.2 ∧ X.env.scope.names.lookup q.2 = some .local)
    (hsm : is.length ≤ 100) (ha : PA X vs0 ta) (hw : swappedStores [.Tuple ts kt pt] (.Tuple vs0 k2 pt2) X.env = pure (some xs)) (hs : swapsWithSole [.Tuple ts kt pt] (.Tuple vs0 k2 pt2) pos.line X.env = pure false) :
    PS X (.Assign [.Tuple ts kt pt] (.Tuple vs0 k2 pt2) pos) (tParN is ta) := by
  refine ⟨fun pins s σ H D I h => ?_⟩
  rw [exec_Assign_arm]
  refine wpAny_bind (wpAny_standAt ?_)
  rw [hs]
  refine wpAny_bind (wpAny_pure ?_)
  rw [if_neg (by decide)]
  refine wpAny_bind (Tuple_ (thn (ha.run _ pins s σ H _ I h) fun us s1 ⟨vs, H1, I1, r1, hv, q1⟩ => ?_))
  have hul : us.length = is.length := by rw [← r1.length]; exact hv
  refine wpAny_newObj_type ?_ (by show us.toArray.size ≤ sizeLine; rw [List.size_toArray, hul]; exact Nat.le_trans hsm (by decide))
  have I2 : Inv X pins σ H1 { s1 with heap := s1.heap.push { cls := .type "tuple", data := .seq us.toArray } } := I1.kept (t' := s1.toks) fun b o e => Heap.get?_push_of_some _ e
  rw [hw]
  refine wpAny_bind (wpAny_pure ?_)
  show wpAny (model X.prog X.w) X.A (do rule "assign.swapped-stores"; let items ← unpackItems (.ref s1.heap.objs.size) xs.length none; assignInOrder (xs.reverse.map fun n => fun v => bindName X.env n v) items.reverse; pure Flow.next) _ _ _
  have hxl : xs.length = us.toArray.size := by rw [List.size_toArray, hul, hl]
  rw [hxl]
  refine wpAny_bind (wpAny_rule (wpAny_bind (unpackItems_tuple (items := us.toArray) (I.ok.hd hc) (IsTup.new s1.heap _) fun h' hx' => ?_)))
  have I3 := I2.kept (h' := h') (t' := s1.toks) fun b o e => hx' b o (Nat.ne_of_lt (Heap.lt_size e)) e
  obtain ⟨n1, n2⟩ := trip_names hl hv
  have e1 : (xs.reverse.map fun n => fun v => bindName X.env n v) = ((trip is xs vs).reverse.map fun q => fun v => bindName X.env q.2.1 v) := by
    have e0 : xs.reverse = (trip is xs vs).reverse.map (·.2.1) := by rw [List.map_reverse, n1]
    rw [e0, List.map_map]; rfl
  refine wpAny_bind ?_
  rw [e1]
  refine store_all (σ := σ) hN (fun q hq => hi _ (trip_mem (List.mem_reverse.mp hq))) ?_ I3 fun s3 I4 => wpAny_pure ?_
  · rw [List.map_reverse, n2]
    exact Vals.reverse (by simpa using r1)
  · rw [List.foldl_reverse, trip_set hl hv] at I4
    exact ⟨_, H1, I4, q1⟩
def parC (N : List Str) (sc : Scope) (is : List Nat) (xs : List Str) : Bool := (is.zip xs).all fun q => decide (N[q.1]? = some q.2) && decide (sc.names.lookup q.2 = some .local)
theorem js_par {is : List Nat} {xs : List Str} {ts vs0 : List Expr} {fa : T → Rs (List PR)} {pt : Pos} {kt k2 : Nat} {pt2 pos : Pos} (hc : X.calm = true) (hN : X.N.Nodup) (hl : is.length = xs.length) (hi : parC X.N X.env.scope is xs = true)
    (hsm : is.length ≤ 100) (ha : JAX px W X vs0 fa) (hw : swappedStores [.Tuple ts kt pt] (.Tuple vs0 k2 pt2) X.env = pure (some xs)) (hs : swapsWithSole [.Tuple ts kt pt] (.Tuple vs0 k2 pt2) pos.line X.env = pure false) :
    JS px W X (.Assign [.Tuple ts kt pt] (.Tuple vs0 k2 pt2) pos) (sPar is fa) := by
  refine PS.imp (ps_parN hc hN hl (fun q hq => by have := List.all_eq_true.mp hi q hq; simpa only [Bool.and_eq_true, decide_eq_true_eq] using this) hsm ha hw hs) fun D σ H ⟨M, F, τ, s, p⟩ => ⟨M, F, τ, s, p.bind.imp fun rs τ1 F1 H1 g1 s1 q vs rvs => ?_⟩
  cases e : putAll is rs τ1 with
  | none => simp only [e] at q; exact q.elim
  | some τ2 =>
    simp only [e] at q
    have len : ∀ {is : List Nat} {rs : List PR} {τ τ2 : T}, putAll is rs τ = some τ2 → rs.length = is.length := fun {is} => by
      induction is with
      | nil => intro rs τ τ2 h; cases rs with
        | nil => rfl
        | cons r rs => cases h
      | cons i is ih => intro rs τ τ2 h; cases rs with
        | nil => cases h
        | cons r rs =>
          unfold putAll at h
          cases e : putAll is rs τ with
          | none => rw [e] at h; cases h
          | some τ' => simp [ih e]
    have lv : ∀ {M : MS} {vs : List V} {rs : List PR}, PRL X.K F1 H1 σ τ1 M vs rs → vs.length = rs.length := fun {M vs rs} h => by
      induction h with
      | nil => rfl
      | d _ _ ih => simp [ih]
      | o _ _ ih => simp [ih]
    refine ⟨by rw [lv rvs, len e], q _ F1 H1 .refl (put_all s1 rvs e).1⟩
end
end U
end

section
set_option Elab.async false
set_option linter.all false
set_option maxRecDepth 100000
namespace U
open PySem PySem.Spec PyProof.Rows L2

/-! ### what a law's text gives -/
structure Blt (mg : Str → Option Value) : Prop where
  len : mg "len" = none
  range : mg "range" = none
  zip : mg "zip" = none
  enumerate : mg "enumerate" = none
  isinstance : mg "isinstance" = none
  int : mg "int" = none
  abs : mg "abs" = none
  list : mg "list" = none
  tuple : mg "tuple" = none
  str : mg "str" = none
  bool : mg "bool" = none
  dict : mg "dict" = none
  set : mg "set" = none
  sorted : mg "sorted" = none
  sum : mg "sum" = none
  min : mg "min" = none
  max : mg "max" = none
  any : mg "any" = none
  all : mg "all" = none
/-- a def as it stands behind the top -/
structure DefOk (K : PySem.W.Frag) (mg : Str → Option Value) (x : Str) (st : Stmt) (ps : List Str) : Prop where
  ex : ∃ f fd, FunD K x x (defArgs st) (defBody st) (defScope st) [] [] f fd ∧ mg x = some (.ref f) ∧ Binds K fd ps []
structure Callee (P : Program) (w : World) (K : PySem.W.Frag) (mg : Str → Option Value) (base : Heap) (px : PX) (x : Str) (a : Arguments) (ps : List Str) (k : Nat) (den : List Sl → DR) : Prop where
  ex : ∃ f fd, FnOk P w K mg base (L2.CX P w) k f fd ps (spOf K px ps.length den) ∧ mg x = some (.ref f) ∧ PySem.W.keepIn K (.ref f) = true ∧ Binds K fd ps [] ∧ ∃ y body sc, FunD K y y a body sc [] [] f fd
section
variable {P : Program} {w : World} {K : PySem.W.Frag} {mg : Str → Option Value} {base : Heap} {px : PX} {x : Str}
theorem Callee.mono {a : Arguments} {ps : List Str} {k k' : Nat} {den : List Sl → DR} (c : Callee P w K mg base px x a ps k den) (h : k ≤ k') : Callee P w K mg base px x a ps k' den := by
  obtain ⟨f, fd, F, r⟩ := c.ex
  exact ⟨f, fd, F.mono h, r⟩
/-- a def's body, read -/
theorem callee {st : Stmt} {N ps : List Str} {k m : Nat} {g : T → SR} (D : DefOk K mg x st ps) (S : FnScope N ps (defScope st)) (hn : N.length = ps.length + m)
    (hb : ∀ (f : Addr) (cdv : Value) (A : Around) (outer : List Env) (s : Shared) (H : Hp) (E : XK), Room k (A.deeper (envOfC x (defScope st) s.heap.objs.size f cdv)) →
      Takes (cxOf (L2.CX P w) P w K mg base N x (defScope st) f cdv A outer s H E) (fun cls d _ H => E cls d H) →
      PassesOwn (model P w) (cxOf (L2.CX P w) P w K mg base N x (defScope st) f cdv A outer s H E).A (cxOf (L2.CX P w) P w K mg base N x (defScope st) f cdv A outer s H E).env (cxOf (L2.CX P w) P w K mg base N x (defScope st) f cdv A outer s H E).xe →
      JSs px (fun cls d _ H => E cls d H) (cxOf (L2.CX P w) P w K mg base N x (defScope st) f cdv A outer s H E) (defBody st) g) :
    Callee P w K mg base px x (defArgs st) ps (k + 1) (run m g) := by
  obtain ⟨f, fd, F, hm, hb'⟩ := D.ex
  exact ⟨f, fd, fn_run F S hn (hb f), hm, F.kp, hb', _, _, _, F⟩
/-- a def that is not run -/
theorem callee0 {st : Stmt} {ps : List Str} {k : Nat} (D : DefOk K mg x st ps) : Callee P w K mg base px x (defArgs st) ps k (fun _ => .stuck) := by
  obtain ⟨f, fd, F, hm, hb'⟩ := D.ex
  exact ⟨f, fd, ⟨fun vs H Q E ⟨_, _, _, h, _⟩ => h, fun A outer s H args us vs Q E _ _ _ _ ⟨_, _, _, _, _, _, p⟩ => p.elim⟩, hm, F.kp, hb', _, _, _, F⟩
/-- a def under another name -/
structure DefAs (K : PySem.W.Frag) (mg : Str → Option Value) (x y : Str) (st : Stmt) (ps : List Str) : Prop where
  ex : ∃ f fd, FunD K y y (defArgs st) (defBody st) (defScope st) [] [] f fd ∧ mg x = some (.ref f) ∧ Binds K fd ps []
theorem callee_as {y : Str} {st : Stmt} {N ps : List Str} {k m : Nat} {g : T → SR} (D : DefAs K mg x y st ps) (S : FnScope N ps (defScope st)) (hn : N.length = ps.length + m)
    (hb : ∀ (f : Addr) (cdv : Value) (A : Around) (outer : List Env) (s : Shared) (H : Hp) (E : XK), Room k (A.deeper (envOfC y (defScope st) s.heap.objs.size f cdv)) →
      Takes (cxOf (L2.CX P w) P w K mg base N y (defScope st) f cdv A outer s H E) (fun cls d _ H => E cls d H) →
      PassesOwn (model P w) (cxOf (L2.CX P w) P w K mg base N y (defScope st) f cdv A outer s H E).A (cxOf (L2.CX P w) P w K mg base N y (defScope st) f cdv A outer s H E).env (cxOf (L2.CX P w) P w K mg base N y (defScope st) f cdv A outer s H E).xe →
      JSs px (fun cls d _ H => E cls d H) (cxOf (L2.CX P w) P w K mg base N y (defScope st) f cdv A outer s H E) (defBody st) g) :
    Callee P w K mg base px x (defArgs st) ps (k + 1) (run m g) := by
  obtain ⟨f, fd, F, hm, hb'⟩ := D.ex
  exact ⟨f, fd, fn_run F S hn (hb f), hm, F.kp, hb', _, _, _, F⟩
end
section
variable {px : PX} {W : WX} {X : Cx} {k : Nat} {x : Str} {p pos : Pos} {e : Expr} {es : List Expr}
theorem jx_own {den : List Sl → DR} {fa : T → Rs (List BR)} {a : Arguments} {ps : List Str} (C : Callee X.prog X.w X.K X.mg X.base px x a ps k den) (hr : Room k X.A) (tk : Takes X W) (hg : Gl X x) (ha : JAB px W X (e :: es) fa) (hn : ∀ τ bs τ1, fa τ = .ok bs τ1 → bs.length = ps.length) (hdb : (x == ("__debug__" : Str)) = false)
    (he : starEach (e :: es) X.env = (false, eval e X.env) :: starEach es X.env) (hpl : (backTo pos (starEach es X.env)).any (·.1) = false) : JX px W X (.Call (.Name x p) (e :: es) [] pos) (sCall den fa) := by
  obtain ⟨f, fd, F, hm, hk, hb, _⟩ := C.ex
  exact jx_call F hr hg hm hk hb tk ha hn hdb he hpl
theorem jx_own0 {den : List Sl → DR} {a : Arguments} (C : Callee X.prog X.w X.K X.mg X.base px x a [] k den) (hr : Room k X.A) (tk : Takes X W) (hg : Gl X x) (hdb : (x == ("__debug__" : Str)) = false) : JX px W X (.Call (.Name x p) [] [] pos) (sCall den sBNil) := by
  obtain ⟨f, fd, F, hm, hk, hb, _⟩ := C.ex
  exact jx_call0 F hr hg hm hk hb tk hdb
theorem jx_strE {m : Str} {z : List Nat} {j : Nat} (h : m = stO z) : JX px W X (.Constant (.str m) j pos) (sC (.str z)) := by
  subst h; exact jx_str
/-- the number of arguments -/
theorem bl0 : ∀ τ bs τ1, sBNil τ = .ok bs τ1 → bs.length = 0 := fun τ bs τ1 h => by cases h; rfl
theorem blS {f : T → Rs BR} {g : T → Rs (List BR)} {n : Nat} (h : ∀ τ bs τ1, g τ = .ok bs τ1 → bs.length = n) : ∀ τ bs τ1, sBCons f g τ = .ok bs τ1 → bs.length = n + 1 := fun τ bs τ1 e => by
  unfold sBCons at e
  cases ef : f τ with
  | stuck => rw [ef] at e; cases e
  | exc x t => rw [ef] at e; cases e
  | ok b t =>
    rw [ef] at e
    have e : (g t).bind (fun ds τ2 => .ok (b :: ds) τ2) = .ok bs τ1 := e
    cases eg : g t with
    | stuck => rw [eg] at e; cases e
    | exc x t' => rw [eg] at e; cases e
    | ok bs' t' =>
      rw [eg] at e
      cases e
      rw [List.length_cons, h _ _ _ eg]
/-- one argument, made for the call: the callee may own it -/
def sCallF (den : List Sl → DR) (f : T → Rs PR) : T → Rs PR := fun τ => (f τ).bind fun r τ1 => match den [r.slot] with
  | .ok z _ => .ok z τ1
  | .exc y _ => .exc y τ1
  | .stuck => .stuck
theorem SRel.over {K : PySem.W.Frag} {M N : MS} {F H F' H' : Hp} {σ : St} {τ : T} (s : SRel K M F H σ τ) (g : Grow N F H F' H') (hs : Sub F' H') (hN : ∀ (i : Nat) (sl : Sl) (a : Addr), τ[i]? = some sl → sl.mut ≠ none → σ[i]? = some (some (V.ref a)) → ¬ N.m a) : SRel K M F' H' σ τ := by
  refine ⟨s.len, fun a e => s.up a (g.there a e), hs, fun i d e => ?_, fun i sl o e m => ?_, s.apart, s.io⟩
  · obtain ⟨v, h1, h2⟩ := s.val i d e
    exact ⟨v, h1, h2.mono g.frz⟩
  · obtain ⟨a, u, p1, p2, p3, p4, p5⟩ := s.own i sl o e m
    have out := hN i sl a e (by rw [m]; exact fun z => nomatch z) p1
    exact ⟨a, u, p1, g.keep a u p2 out, g.free a p3 (by rw [p2]; exact fun z => nomatch z) out, p4, p5.mono g.frz⟩
theorem rd_callF {K : PySem.W.Frag} {den : List Sl → DR} {f : T → Rs PR} {σ : St} {H : Hp} {Q : VK} (h : rdX K px W (sCallF den f) σ H Q) : rdX K px W f σ H (fun v H1 => spOf K px 1 den [v] H1 Q (WE W σ)) := by
  obtain ⟨M, F, τ, s, p⟩ := h
  refine rdX_bind s p fun r τ1 F1 H1 v g1 s1 rv p1 => ?_
  let N : MS := ⟨fun a => H1 a = none ∨ (v = .ref a ∧ ∃ z, r = .o z), fun _ => 0⟩
  have one : ∀ {i : Nat} {sl : Sl}, [r.slot][i]? = some sl → i = 0 ∧ sl = r.slot := fun {i sl} e => by
    cases i with
    | zero => exact ⟨rfl, by simpa using e.symm⟩
    | succ i => simp at e
  have hN : ∀ (i : Nat) (sl : Sl) (a : Addr), τ1[i]? = some sl → sl.mut ≠ none → σ[i]? = some (some (V.ref a)) → ¬ N.m a := fun i sl a e m hv hm => by
    obtain ⟨o, eo⟩ := Option.ne_none_iff_exists'.mp m
    obtain ⟨b, u, p1, p2, _⟩ := s1.own i sl o e eo
    rw [hv] at p1
    cases p1
    rcases hm with hm | ⟨hm, z, hr⟩
    · rw [p2] at hm; cases hm
    · subst hr
      obtain ⟨b, u', ev, _, _, _, _, h6⟩ := rv
      rw [hm] at ev
      cases ev
      exact h6 i sl e m hv
  have sub : ∀ a, N.m a → M.m a := fun a h => by
    rcases h with h | ⟨h, z, hr⟩
    · exact s1.up a h
    · subst hr
      obtain ⟨b, u', ev, _, _, h4, _⟩ := rv
      rw [h] at ev
      cases ev
      exact h4
  refine ⟨N, F1, [r.slot], rfl, rfl, ⟨Nat.le_refl _, fun a h => .inl h, s1.sub, fun i d e => ?_, fun i sl o e m => ?_, fun i j sl tl b e1 _ e2 _ _ _ => ?_, fun i o e => ?_⟩, ?_⟩
  · obtain ⟨rfl, q⟩ := one e
    cases r with
    | d z => cases q; exact ⟨v, rfl, rv⟩
    | o z => cases q
  · obtain ⟨rfl, q⟩ := one e
    subst q
    cases r with
    | d z => cases m
    | o z =>
      cases m
      obtain ⟨b, u', ev, h2, h3, h4, h5, _⟩ := rv
      subst ev
      exact ⟨b, u', rfl, h2, h3, .inr ⟨rfl, _, rfl⟩, h5⟩
  · rw [(one e1).1, (one e2).1]
  · obtain ⟨_, q⟩ := one e
    cases r <;> cases q
  · have gm : ∀ {F' H' : Hp}, Grow N F1 H1 F' H' → Grow M F1 H1 F' H' := fun g => g.mono sub
    cases ed : den [r.slot] with
    | stuck => simp only [ed] at p1; exact p1.elim
    | exc y fs =>
      simp only [ed] at p1
      exact fun F' H' g' s' dd xd => p1 F' H' (gm g') (s1.over g' s'.sub hN) dd xd
    | ok z fs =>
      simp only [ed] at p1
      cases z with
      | d z => exact fun w F' H' g' s' rw' => p1 F' H' (gm g') (s1.over g' s'.sub hN) w rw'
      | o z =>
        intro w F' H' g' s' rw'
        refine p1 F' H' (gm g') (s1.over g' s'.sub hN) w ?_
        obtain ⟨a, u, e, h2, h3, h4, h5, h6⟩ := rw'
        subst e
        exact ⟨a, u, rfl, h2, h3, sub a h4, h5, fun i sl e m hv => hN i sl a e m hv h4⟩
theorem jx_ownF {den : List Sl → DR} {f : T → Rs PR} {a : Arguments} {y : Str} (C : Callee X.prog X.w X.K X.mg X.base px x a [y] k den) (hr : Room k X.A) (tk : Takes X W) (hg : Gl X x) (ha : JX px W X e f) (hdb : (x == ("__debug__" : Str)) = false)
    (he : starEach [e] X.env = (false, eval e X.env) :: starEach [] X.env) : JX px W X (.Call (.Name x p) [e] [] pos) (sCallF den f) := by
  obtain ⟨g, fd, F, hm, hk, hb, _⟩ := C.ex
  exact PE.imp (pe_callS F hr hg hm hk hb (fun σ => passAt tk σ) (pa_cons ha pa_nil he) hdb he rfl) fun σ H Q h => rd_callF h
end
end U
end

section
set_option Elab.async false
set_option linter.all false
set_option maxRecDepth 100000
namespace U
open PySem PySem.Spec PyProof.Rows L2
/-! ### a law's end -/
def px0 : PX := ⟨fun _ => 0, fun _ => []⟩
theorem law_sp {K : PySem.W.Frag} {px : PX} {den : List Sl → DR} {H : Hp} {a : Addr} {ns : List Int} {E : XK} (hS : SqL K H a (ns.map V.int)) (h : ∃ fs, den [.val (.scr ns)] = .ok (.d (.bl true)) fs) : spOf K px 1 den [.ref a] H (fun v _ => v = .bl true) E := by
  obtain ⟨fs, h⟩ := h
  refine ⟨⟨fun _ => True, fun _ => 0⟩, H, [.val (.scr ns)], rfl, rfl, ⟨Nat.le_refl _, fun _ _ => trivial, Sub.refl _, fun i d e => ?_, fun i sl o e m => ?_, fun i j sl tl b e1 m1 _ _ _ _ => ?_, fun i o e => ?_⟩, ?_⟩
  · cases i with
    | zero => cases e; exact ⟨_, rfl, .scr hS⟩
    | succ i => simp at e
  · cases i with
    | zero => cases e; cases m
    | succ i => simp at e
  · cases i with
    | zero => cases e1; exact absurd rfl m1
    | succ i => simp at e1
  · cases i with
    | zero => cases e
    | succ i => simp at e
  · rw [h]
    intro v F' H' _ _ r
    cases r
    rfl
theorem walk_U {l : PySem.W.OpenLaw} {n k : Nat} {q : Program} {loose : List Str} {XP : (Str → Option Value) → Heap → Prop} {YP : World → Heap → Prop} {d : DefRec} {x : Str} {px : PX} {den : List Sl → DR} (hn : l.most = some n) (hn2 : n ≤ sizeLine) (hdf : d.params.defaults = []) (hr : Room k callerA)
    (F : ∀ (w : World) (mg : Str → Option Value) (fa : Addr) (h : Heap), YP w h → h.Ns mainGlobals mg → mg d.name = some (.ref fa) → ∃ (K : PySem.W.Frag) (fd : FuncData), K.In h ∧ (∀ (s : Shared) (u : Value), BindsTo s fd ⟨[u], []⟩ [(x, u)]) ∧
      ∀ base : Heap, K.In base → base.Ns mainGlobals mg → FnOk l.prog w K mg base (L2.CX l.prog w) k fa fd [x] (spOf K px 1 den))
    (hden : ∀ ns : List Int, ns.length ≤ n → ∃ fs, den [.val (.scr ns)] = .ok (.d (.bl true)) fs) :
    PySem.W.WalkO q loose XP YP l.row.toRowW d [] (fun f vs => PySem.call f vs) := by
  refine Att.attach_call hn hdf fun w s0 s1 mg mb fa o pm cd doc a vs ns G Y ho hd hcd hmg hobj hints hlen hg => ?_
  obtain ⟨K, fd, KX, hb, hF⟩ := F w mg fa _ Y G.T.g hmg
  exact law_call (CX := L2.CX l.prog w) KX G.T.g G.T.b G.T.builtins G.T.nolimit hg hobj hints (Nat.le_trans hlen hn2) hr hF hb (fun H _ hS => law_sp hS (hden ns hlen)) fun H e s' z => by
    obtain ⟨_, _, _, _, _, _, _, _, _, _, _, _, z⟩ := z
    exact z
end U
end

section
set_option Elab.async false
set_option linter.all false
set_option maxRecDepth 100000
namespace U
open PySem PySem.Spec PyProof.Rows L2
/-! ### how the readings compute -/
def Sl.free : Sl → Bool
  | .io _ => false
  | _ => true
theorem evl :
    (∀ (α β : Type) (a : α) (t : T) (k : α → T → Rs β), (Rs.ok a t).bind k = k a t) ∧
    (∀ (α : Type) (a : α) (t : T) (k : α → T → SR), (Rs.ok a t).s k = k a t) ∧
    (∀ t g, (SR.nx t).then g = g t) ∧ (∀ r t g, (SR.rt r t).then g = .rt r t) ∧
    (∀ f g τ, sSeq f g τ = (f τ).then g) ∧ (∀ τ, sNext τ = .nx τ) ∧
    (∀ d τ, sC d τ = .ok (.d d) τ) ∧
    (∀ i τ, sVar i τ = match τ[i]? with
      | some (.val d) => .ok (.d d) τ
      | some (.own o) => .ok (.d o.toD) (τ.set i (.val o.toD))
      | _ => .stuck) ∧
    (∀ i τ, sRd i τ = match τ[i]? with
      | some (.val d) => .ok (.d d) τ
      | some (.own _) => .ok (.sl i) τ
      | some (.io _) => .ok (.sl i) τ
      | _ => .stuck) ∧
    (∀ f τ, toB f τ = (f τ).bind fun z τ' => .ok (.d z) τ') ∧
    (∀ f τ, frz f τ = (f τ).bind fun r τ' => .ok r.toD τ') ∧ (∀ d, (PR.d d).toD = d) ∧ (∀ d, (PR.o d).toD = d.toD) ∧ (∀ d, (OV.l d).toD = .lst d) ∧
    (∀ z τ, (BR.d z).at τ = some z) ∧ (∀ i τ, (BR.sl i).at τ = match τ[i]? with
      | some s => s.seen
      | none => none) ∧
    (∀ d, (Sl.val d).seen = some d) ∧ (∀ d, (Sl.own d).seen = some d.toD) ∧ (∀ d, (Sl.io d).seen = some d.toD) ∧ (∀ d, (Sl.own d).mut = some d) ∧ (∀ d, (Sl.io d).mut = some d) ∧ (∀ o o', (Sl.io o).put o' = .io o') ∧ (∀ o o', (Sl.own o).put o' = .own o') ∧
    (∀ g fa fb τ, sOp2 g fa fb τ = (fa τ).bind fun x τ1 => (fb τ1).bind fun y τ2 => ap2 g x y τ2) ∧
    (∀ g x y τ, ap2 g x y τ = match x.at τ, y.at τ with
      | some d, some e => (match g d e with | some r => .ok r τ | none => .stuck)
      | _, _ => .stuck) ∧
    (∀ f τ, sTB f τ = (f τ).bind fun r τ1 => match r with
      | .d (.bl b) => .ok b τ1
      | _ => .stuck) ∧
    (∀ f τ, sTru f τ = (f τ).bind fun x τ1 => match x.at τ1 with
      | some d => (match d.truth with | some b => .ok b τ1 | none => .stuck)
      | none => .stuck) := by
  repeat' apply And.intro
  all_goals (intros; rfl)
theorem evl2 :
    (∀ ta tb τ, sAnd ta tb τ = (ta τ).bind fun c τ1 => if c then tb τ1 else .ok false τ1) ∧
    (∀ ta tb τ, sOr ta tb τ = (ta τ).bind fun c τ1 => if c then .ok true τ1 else tb τ1) ∧
    (∀ ta τ, sNot ta τ = (ta τ).bind fun c τ1 => .ok (!c) τ1) ∧
    (∀ f g τ, sAndV f g τ = (f τ).bind fun r τ1 => match r.truth with
      | some true => g τ1
      | some false => .ok r τ1
      | none => .stuck) ∧
    (∀ f g τ, sOrV f g τ = (f τ).bind fun r τ1 => match r.truth with
      | some true => .ok r τ1
      | some false => g τ1
      | none => .stuck) ∧
    (∀ f τ, sNotV f τ = (f τ).bind fun r τ1 => match r.truth with
      | some k => .ok (.d (.bl (!k))) τ1
      | none => .stuck) ∧
    (∀ t f g τ, sIte t f g τ = (t τ).bind fun k τ1 => if k then f τ1 else g τ1) ∧
    (∀ f τ, sNeg f τ = (f τ).bind fun d τ1 => match d with
      | .int i => .ok (.d (.int (-i))) τ1
      | _ => .stuck) ∧
    (∀ τ, sNil τ = .ok [] τ) ∧ (∀ f g τ, sCons f g τ = (f τ).bind fun d τ1 => (g τ1).bind fun ds τ2 => .ok (d :: ds) τ2) ∧
    (∀ g τ, sTup g τ = (g τ).bind fun ds τ1 => if ds.length ≤ lim then .ok (.d (.tup ds)) τ1 else .stuck) ∧
    (∀ g τ, sLst g τ = (g τ).bind fun ds τ1 => if ds.length ≤ lim then .ok (.o (.l ds)) τ1 else .stuck) ∧
    (∀ τ, sNoP τ = .ok none τ) ∧ (∀ f τ, sSmP f τ = (f τ).bind fun d τ1 => match d with
      | .int i => .ok (some i) τ1
      | _ => .stuck) ∧
    (∀ f l u τ, sSl f l u τ = (f τ).bind fun x τ1 => (l τ1).bind fun lo τ2 => (u τ2).bind fun hi τ3 => match x.at τ3 with
      | some d => (match gSl lo hi d with | some r => .ok r τ3 | none => .stuck)
      | none => .stuck) ∧
    (∀ τ, sBNil τ = .ok [] τ) ∧ (∀ f g τ, sBCons f g τ = (f τ).bind fun d τ1 => (g τ1).bind fun ds τ2 => .ok (d :: ds) τ2) ∧
    (∀ g f τ, sCB g f τ = (f τ).bind fun bs τ1 => match atL bs τ1 with
      | some ds => (match g ds with | some r => .ok r τ1 | none => .stuck)
      | none => .stuck) ∧
    (∀ τ, atL [] τ = some []) ∧ (∀ b bs τ, atL (b :: bs) τ = match b.at τ, atL bs τ with
      | some d, some ds => some (d :: ds)
      | _, _ => none) ∧
    (∀ f τ, sDrop f τ = (f τ).s fun _ τ1 => .nx τ1) ∧ (∀ f τ, sRet f τ = (f τ).s fun r τ1 => .rt r τ1) ∧
    (∀ i τ, sRetV i τ = match τ[i]? with
      | some (.own o) => .rt (.o o) (τ.set i .no)
      | some (.val d) => .rt (.d d) τ
      | _ => .stuck) ∧
    (∀ t f g τ, sIfS t f g τ = (t τ).s fun b τ1 => if b then f τ1 else g τ1) ∧
    (∀ i f τ, sSet i f τ = (f τ).s fun r τ1 => putS i r τ1) ∧ (∀ i r τ, putS i r τ = if notIo τ i then .nx (τ.set i r.slot) else .stuck) ∧ (∀ z, (PR.d z).slot = .val z) ∧ (∀ z, (PR.o z).slot = .own z) ∧
    (∀ s τ, notIo (s :: τ) 0 = s.free) ∧ (∀ s τ i, notIo (s :: τ) (i + 1) = notIo τ i) ∧ (∀ d, (Sl.val d).free = true) ∧ (∀ d, (Sl.own d).free = true) ∧ (Sl.no.free = true) := by
  refine ⟨fun _ _ _ => rfl, fun _ _ _ => rfl, fun _ _ => rfl, fun _ _ _ => rfl, fun _ _ _ => rfl, fun _ _ => rfl, fun _ _ _ _ => rfl, fun _ _ => rfl, fun _ => rfl, fun _ _ _ => rfl, fun _ _ => rfl, fun _ _ => rfl, fun _ => rfl, fun _ _ => rfl, fun _ _ _ _ => rfl, fun _ => rfl, fun _ _ _ => rfl, fun _ _ _ => rfl, fun _ => rfl, fun _ _ _ => rfl, fun _ _ => rfl, fun _ _ => rfl, fun _ _ => rfl, fun _ _ _ _ => rfl, fun _ _ _ => rfl, fun _ _ _ => rfl, fun _ => rfl, fun _ => rfl, fun s τ => ?_, fun s τ i => ?_, fun _ => rfl, fun _ => rfl, rfl⟩
  · cases s <;> rfl
  · simp [notIo]
theorem evl3 :
    (∀ it g b τ, sFor it g b τ = (it τ).s fun ds τ1 => forL (sBody g b) ds τ1) ∧
    (∀ g b d τ, sBody g b d τ = match g d τ with
      | some τ' => b τ'
      | none => .stuck) ∧
    (∀ i d τ, gNm i d τ = if notIo τ i then some (τ.set i (.val d)) else none) ∧
    (∀ τ, gN0 [] τ = some τ) ∧ (∀ g h d ds τ, gN1 g h (d :: ds) τ = match g d τ with
      | some τ' => h ds τ'
      | none => none) ∧
    (∀ n h ds τ, gTp n h (.tup ds) τ = if ds.length = n then h ds τ else none) ∧
    (∀ f τ, sItems f τ = (f τ).bind fun d τ1 => match d.items with
      | some ds => .ok ds τ1
      | none => .stuck) ∧
    (∀ ds, (D.tup ds).items = some ds) ∧ (∀ ds, (D.lst ds).items = some ds) ∧
    (∀ f τ, sRng1 f τ = (f τ).bind fun ds τ1 => match ds with
      | [.int j] => if j.natAbs < 2 ^ 62 then .ok (rng 0 j.toNat) τ1 else .stuck
      | _ => .stuck) ∧
    (∀ f τ, sEnum f τ = (f τ).bind fun ds τ1 => match ds with
      | [.lst es] => .ok (numb 0 es) τ1
      | [.tup es] => .ok (numb 0 es) τ1
      | [.str x] => .ok (numb 0 (x.map fun c => .str [c])) τ1
      | [.ptp es] => .ok (numb 0 es) τ1
      | _ => .stuck) ∧
    (∀ f τ, sZip f τ = (f τ).bind fun ds τ1 => match ds with
      | [.lst es, .lst fs] => .ok (zipD es fs) τ1
      | [.tup es, .tup fs] => .ok (zipD es fs) τ1
      | [.ptp es, .tup fs] => .ok (zipD es fs) τ1
      | [.tup es, .ptp fs] => .ok (zipD es fs) τ1
      | [.ptp es, .ptp fs] => .ok (zipD es fs) τ1
      | _ => .stuck) ∧
    (∀ fi g tt el vs τ, sLc fi g tt el vs τ = (fi τ).bind fun ds τ1 => (compL (turnC g tt el vs) ds (wipeT τ1 vs) []).bind fun acc τ2 => .ok (.o (.l acc)) (restT τ1 vs τ2)) ∧
    (∀ g tt el vs d τ, turnC g tt el vs d τ = match g d τ with
      | none => .stuck
      | some τ1 => match tt τ1 with
        | .ok false τ2 => .ok none (wipeT τ2 vs)
        | .ok true τ2 => (match el τ2 with
          | .ok z τ3 => .ok (some z) (wipeT τ3 vs)
          | _ => .stuck)
        | _ => .stuck) ∧
    (∀ τ, wipeT τ [] = τ) ∧ (∀ τ v vs, wipeT τ (v :: vs) = (wipeT τ vs).set v .no) ∧
    (∀ τ1 τ, restT τ1 [] τ = τ) ∧ (∀ τ1 τ v vs, restT τ1 (v :: vs) τ = match τ1[v]? with
      | some (.val d) => (restT τ1 vs τ).set v (.val d)
      | _ => restT τ1 vs τ) := by
  refine ⟨fun _ _ _ _ => rfl, fun _ _ _ _ => rfl, fun _ _ _ => rfl, fun _ => rfl, fun _ _ _ _ _ => rfl, fun _ _ _ _ => rfl, fun _ _ => rfl, fun _ => rfl, fun _ => rfl, fun _ _ => rfl, fun _ _ => rfl, fun _ _ => rfl, fun _ _ _ _ _ _ => rfl, fun _ _ _ _ _ _ => rfl, fun _ => rfl, fun _ _ _ => rfl, fun _ _ => rfl, fun _ _ _ _ => rfl⟩
theorem evl4 :
    (∀ m f as, run m f as = DR.of (f (as ++ List.replicate m .no)) as) ∧
    (∀ r τ as, DR.of (.rt r τ) as = match finals as τ with | some fs => .ok r fs | none => .stuck) ∧
    (∀ τ as, DR.of (.nx τ) as = match finals as τ with | some fs => .ok (.d .non) fs | none => .stuck) ∧
    (∀ τ, finals [] τ = some []) ∧ (∀ o o' as τ, finals (.io o :: as) (.io o' :: τ) = (finals as τ).map (Sl.io o' :: ·)) ∧ (∀ d s as τ, finals (.val d :: as) (s :: τ) = (finals as τ).map (Sl.no :: ·)) ∧ (∀ d s as τ, finals (.own d :: as) (s :: τ) = (finals as τ).map (Sl.no :: ·)) ∧
    (∀ den fa τ, sCall den fa τ = (fa τ).bind fun bs τ1 => if (slL bs).Nodup then (match avL bs τ1 with
      | some as => (match den as with
        | .ok r fs => (match putL bs as fs τ1 with | some τ2 => .ok r τ2 | none => .stuck)
        | .exc x fs => (match putL bs as fs τ1 with | some τ2 => .exc x τ2 | none => .stuck)
        | .stuck => .stuck)
      | none => .stuck) else .stuck) ∧
    (∀ den f τ, sCallF den f τ = (f τ).bind fun r τ1 => match den [r.slot] with
      | .ok z _ => .ok z τ1
      | .exc y _ => .exc y τ1
      | .stuck => .stuck) ∧
    (slL [] = []) ∧ (∀ z bs, slL (.d z :: bs) = slL bs) ∧ (∀ i bs, slL (.sl i :: bs) = i :: slL bs) ∧
    (∀ τ, avL [] τ = some []) ∧ (∀ z bs τ, avL (.d z :: bs) τ = (avL bs τ).map (Sl.val z :: ·)) ∧
    (∀ i bs τ, avL (.sl i :: bs) τ = match τ[i]? with
      | some (.own o) => (avL bs τ).map (Sl.io o :: ·)
      | some (.io o) => (avL bs τ).map (Sl.io o :: ·)
      | some (.val d) => (avL bs τ).map (Sl.val d :: ·)
      | _ => none) ∧
    (∀ τ, putL [] [] [] τ = some τ) ∧ (∀ i bs o as o' fs τ, putL (.sl i :: bs) (.io o :: as) (.io o' :: fs) τ = putL bs as fs (τ.set i ((τ.getD i .no).put o'))) ∧ (∀ z bs d as f fs τ, putL (.d z :: bs) (.val d :: as) (f :: fs) τ = putL bs as fs τ) ∧
    (∀ i bs d as f fs τ, putL (.sl i :: bs) (.val d :: as) (f :: fs) τ = putL bs as fs τ) ∧
    (∀ i g fa τ, sMeth i g fa τ = match τ[i]? with
      | some s0 => (match s0.mut with
        | some (.l _) => (fa τ).bind fun ds τ1 => (match τ1[i]? with
          | some s1 => (match s1.mut with
            | some o => (match g o ds with
              | some (d, o') => .ok (.d d) (τ1.set i (s1.put o'))
              | none => .stuck)
            | none => .stuck)
          | none => .stuck)
        | _ => .stuck)
      | none => .stuck) ∧
    (∀ i fe fi τ, sStore i fe fi τ = (fe τ).s fun d τ1 => match τ1[i]? with
      | some s1 => (match s1.mut with
        | some (.l _) => (fi τ1).s fun k τ2 => (match τ2[i]? with
          | some s2 => (match s2.mut, k with
            | some (.l ds), .int j => (match ixN ds.length j with
              | some m => .nx (τ2.set i (s2.put (.l (ds.set m d))))
              | none => .stuck)
            | _, _ => .stuck)
          | none => .stuck)
        | _ => .stuck)
      | none => .stuck) ∧
    (∀ g fe τ, sUnp g fe τ = (fe τ).s fun d τ1 => match g d τ1 with
      | some τ2 => .nx τ2
      | none => .stuck) ∧
    (∀ τ, sXNil τ = .ok [] τ) ∧ (∀ f g τ, sXCons f g τ = (f τ).bind fun r τ1 => (g τ1).bind fun rs τ2 => .ok (r :: rs) τ2) ∧
    (∀ is fa τ, sPar is fa τ = (fa τ).s fun rs τ1 => match putAll is rs τ1 with
      | some τ2 => .nx τ2
      | none => .stuck) ∧
    (∀ τ, putAll [] [] τ = some τ) ∧ (∀ i is r rs τ, putAll (i :: is) (r :: rs) τ = match putAll is rs τ with
      | some τ' => if notIo τ' i then some (τ'.set i r.slot) else none
      | none => none) ∧
    (∀ cs f τ, sIsi cs f τ = (f τ).bind fun x τ1 => match x.at τ1 with
      | some d => (match d.ty with
        | some t => .ok (.d (.bl (isB t cs))) τ1
        | none => .stuck)
      | none => .stuck) ∧
    (∀ g g' fa fb fc τ, sChain g g' fa fb fc τ = (fa τ).bind fun x τ1 => (fb τ1).bind fun y τ2 => (ap2 g x y τ2).bind fun r τ3 => match r with
      | .d (.bl true) => (fc τ3).bind fun z τ4 => ap2 g' y z τ4
      | .d (.bl false) => .ok (.d (.bl false)) τ3
      | _ => .stuck) := by
  refine ⟨fun _ _ _ => rfl, fun _ _ _ => rfl, fun _ _ => rfl, fun τ => by cases τ <;> rfl, fun _ _ _ _ => rfl, fun _ _ _ _ => rfl, fun _ _ _ _ => rfl, fun _ _ _ => rfl, fun _ _ _ => rfl, rfl, fun _ _ => rfl, fun _ _ => rfl, fun _ => rfl, fun _ _ _ => rfl, fun _ _ _ => rfl, fun _ => rfl, fun _ _ _ _ _ _ _ => rfl, fun _ _ _ _ _ _ _ => rfl, fun _ _ _ _ _ _ _ => rfl, fun _ _ _ _ => rfl, fun _ _ _ _ => rfl, fun _ _ _ => rfl, fun _ => rfl, fun _ _ _ => rfl, fun _ _ _ => rfl, fun _ => rfl, fun _ _ _ _ _ => rfl, fun _ _ _ => rfl, fun _ _ _ _ _ _ => rfl⟩
/-! primitives on their data -/
theorem prim :
    (∀ i j, gAdd (.int i) (.int j) = some (.d (.int (i + j)))) ∧ (∀ x y, gAdd (.lst x) (.lst y) = if x.length + y.length ≤ lim then some (.o (.l (x ++ y))) else none) ∧ (∀ x y, gAdd (.tup x) (.tup y) = if x.length + y.length ≤ lim then some (.d (.tup (x ++ y))) else none) ∧
    (∀ i j, gMul (.int i) (.int j) = if cMul i j then some (.d (.int (i * j))) else none) ∧ (∀ c f i j, gInt c f (.int i) (.int j) = if c i j then some (.d (.int (f i j))) else none) ∧
    (∀ i j, gCmp .lt (.int i) (.int j) = some (.d (.bl (decide (i < j))))) ∧ (∀ i j, gCmp .gt (.int i) (.int j) = some (.d (.bl (decide (j < i))))) ∧ (∀ i j, gCmp .le (.int i) (.int j) = some (.d (.bl (!decide (j < i))))) ∧ (∀ i j, gCmp .ge (.int i) (.int j) = some (.d (.bl (!decide (i < j))))) ∧
    (∀ n i j, gEq n (.int i) (.int j) = some (.d (.bl (n != (i == j))))) ∧
    (∀ ds i, gIx (.lst ds) (.int i) = (atI ds i).map .d) ∧ (∀ ds i, gIx (.tup ds) (.int i) = (atI ds i).map .d) ∧ (∀ ns i, gIx (.scr ns) (.int i) = (atI ns i).map fun n => .d (.int n)) ∧
    (∀ lo hi ds, gSl lo hi (.lst ds) = some (.o (.l (cutA ds lo hi)))) ∧ (∀ lo hi ds, gSl lo hi (.tup ds) = some (.d (.tup (cutA ds lo hi)))) ∧ (∀ lo hi ns, gSl lo hi (.scr ns) = some (.o (.l ((cutA ns lo hi).map .int)))) ∧
    (∀ g d, g1 g [d] = g d) ∧ (∀ ds, gLen (.lst ds) = some (.d (.int ds.length))) ∧ (∀ ds, gLen (.tup ds) = some (.d (.int ds.length))) ∧ (∀ ns, gLen (.scr ns) = some (.d (.int ns.length))) ∧
    (∀ ds, gTuple (.lst ds) = some (.d (.tup ds))) ∧ (∀ ds, gTuple (.tup ds) = some (.d (.tup ds))) ∧ (∀ ds, gList (.lst ds) = some (.o (.l ds))) ∧ (∀ ds, gList (.tup ds) = some (.o (.l ds))) ∧
    (∀ i, gAbs (.int i) = some (.d (.int (if i < 0 then -i else i)))) ∧ (∀ i, gIntC (.int i) = some (.d (.int i))) ∧ (∀ b, gIntC (.bl b) = some (.d (.int (if b then 1 else 0)))) ∧
    (∀ b, (D.bl b).truth = some b) ∧ (∀ i, (D.int i).truth = some (i != 0)) ∧ (∀ ds, (D.lst ds).truth = some (!ds.isEmpty)) ∧ (∀ ds, (D.tup ds).truth = some (!ds.isEmpty)) ∧ (∀ d, (PR.d d).truth = d.truth) ∧ (∀ o, (PR.o (OV.l o)).truth = some (!o.isEmpty)) ∧
    (∀ ds d, mAppend (.l ds) [d] = if ds.length < lim then some (.non, .l (ds ++ [d])) else none) ∧
    (∀ i j, gMin [.int i, .int j] = some (.d (.int (if j < i then j else i)))) ∧ (∀ i j, gMax [.int i, .int j] = some (.d (.int (if j > i then j else i)))) := by
  repeat' apply And.intro
  all_goals (intros; rfl)
theorem slotsE {α : Type} : (∀ (a : α) l, (a :: l)[0]? = some a) ∧ (∀ (a : α) l (i : Nat), (a :: l)[i + 1]? = l[i]?) ∧ (∀ (a b : α) l, (a :: l).set 0 b = b :: l) ∧ (∀ (a b : α) l (i : Nat), (a :: l).set (i + 1) b = a :: l.set i b) ∧ (∀ (a d : α) l, (a :: l).getD 0 d = a) ∧ (∀ (a d : α) l (i : Nat), (a :: l).getD (i + 1) d = l.getD i d) ∧ (∀ l : List α, [] ++ l = l) ∧ (∀ (a : α) l m, (a :: l) ++ m = a :: (l ++ m)) ∧ (∀ a : α, List.replicate 0 a = []) ∧ (∀ (a : α) n, List.replicate (n + 1) a = a :: List.replicate n a) ∧ (∀ (β : Type) (f : α → β) (a : α), (some a).map f = some (f a)) :=
  ⟨fun _ _ => rfl, fun a l i => by simp, fun _ _ _ => rfl, fun _ _ _ _ => rfl, fun _ _ _ => rfl, fun _ _ _ _ => by simp [List.getD], fun _ => rfl, fun _ _ _ => rfl, fun _ => rfl, fun _ _ => rfl, fun _ _ _ => rfl⟩
end U
end

section
set_option Elab.async false
set_option linter.all false
set_option maxRecDepth 100000
namespace U
open PySem PySem.Spec PyProof.Rows L2
/-! ### loops and comprehensions of a known course -/
theorem compL_pure {f : D → T → Rs (Option D)} {h : D → D} {τ : T} : ∀ (ds acc : List D), (∀ d ∈ ds, f d τ = .ok (some (h d)) τ) → acc.length + ds.length ≤ lim → compL f ds τ acc = .ok (acc ++ ds.map h) τ
  | [], acc, _, _ => by simp [compL]
  | d :: ds, acc, hf, hl => by
    have e := hf d (List.mem_cons_self ..)
    rw [List.length_cons] at hl
    have hlt : acc.length < lim := by omega
    show (match f d τ with
      | .ok (some z) τ1 => if acc.length < lim then compL f ds τ1 (acc ++ [z]) else .stuck
      | .ok none τ1 => compL f ds τ1 acc
      | _ => .stuck) = _
    rw [e]
    show (if acc.length < lim then compL f ds τ (acc ++ [h d]) else .stuck) = _
    rw [if_pos hlt, compL_pure ds (acc ++ [h d]) (fun z hz => hf z (List.mem_cons_of_mem _ hz)) (by rw [List.length_append, List.length_singleton]; omega)]
    simp
/-- with a test -/
theorem compL_filter {f : D → T → Rs (Option D)} {p : D → Bool} {h : D → D} {τ : T} : ∀ (ds acc : List D), (∀ d ∈ ds, f d τ = .ok (if p d then some (h d) else none) τ) → acc.length + ds.length ≤ lim → compL f ds τ acc = .ok (acc ++ (ds.filter p).map h) τ
  | [], acc, _, _ => by simp [compL]
  | d :: ds, acc, hf, hl => by
    have e := hf d (List.mem_cons_self ..)
    rw [List.length_cons] at hl
    have hlt : acc.length < lim := by omega
    have ih := fun a hl => compL_filter (f := f) (p := p) (h := h) (τ := τ) ds a (fun z hz => hf z (List.mem_cons_of_mem _ hz)) hl
    show (match f d τ with
      | .ok (some z) τ1 => if acc.length < lim then compL f ds τ1 (acc ++ [z]) else .stuck
      | .ok none τ1 => compL f ds τ1 acc
      | _ => .stuck) = _
    rw [e]
    cases c : p d with
    | true =>
      show (if acc.length < lim then compL f ds τ (acc ++ [h d]) else .stuck) = _
      rw [if_pos hlt, ih _ (by rw [List.length_append, List.length_singleton]; omega), List.filter_cons_of_pos c]
      simp
    | false =>
      show compL f ds τ acc = _
      rw [ih _ (by omega), List.filter_cons_of_neg (by simp [c])]
theorem forL_inv {body : D → T → SR} {P : T → Prop} : ∀ (ds : List D) (τ : T), (∀ d ∈ ds, ∀ τ, P τ → ∃ τ', body d τ = .nx τ' ∧ P τ') → P τ → ∃ τ', forL body ds τ = .nx τ' ∧ P τ'
  | [], τ, _, h => ⟨τ, rfl, h⟩
  | d :: ds, τ, hb, h => by
    obtain ⟨τ1, e, h1⟩ := hb d (List.mem_cons_self ..) τ h
    obtain ⟨τ2, e2, h2⟩ := forL_inv ds τ1 (fun z hz => hb z (List.mem_cons_of_mem _ hz)) h1
    refine ⟨τ2, ?_, h2⟩
    show (match body d τ with
      | .nx τ' => forL body ds τ'
      | .ct τ' => forL body ds τ'
      | .bk τ' => .nx τ'
      | m => m) = _
    rw [e]; exact e2
theorem forL_step {body : D → T → SR} {d : D} {ds : List D} {τ τ1 : T} (h : body d τ = .nx τ1) : forL body (d :: ds) τ = forL body ds τ1 := by
  show (match body d τ with
    | .nx τ' => forL body ds τ'
    | .ct τ' => forL body ds τ'
    | .bk τ' => .nx τ'
    | m => m) = _
  rw [h]
theorem forL_ret {body : D → T → SR} {d : D} {ds : List D} {τ τ1 : T} {r : PR} (h : body d τ = .rt r τ1) : forL body (d :: ds) τ = .rt r τ1 := by
  show (match body d τ with
    | .nx τ' => forL body ds τ'
    | .ct τ' => forL body ds τ'
    | .bk τ' => .nx τ'
    | m => m) = _
  rw [h]
theorem bls_all : ∀ {ds : List D}, (∀ d ∈ ds, d = .bl true) → blsOf ds = some (ds.map fun _ => true)
  | [], _ => rfl
  | d :: ds, h => by
    have e := h d (List.mem_cons_self ..)
    subst e
    show (blsOf ds).map (true :: ·) = _
    rw [bls_all fun z hz => h z (List.mem_cons_of_mem _ hz)]
    rfl
theorem gAll_true {ds : List D} (h : ∀ d ∈ ds, d = .bl true) : gAll (.lst ds) = some (.d (.bl true)) := by
  show (blsOf ds).map _ = _
  rw [bls_all h]
  simp
theorem bls_map (p : α → Bool) : ∀ xs : List α, blsOf (xs.map fun x => D.bl (p x)) = some (xs.map p)
  | [] => rfl
  | x :: xs => by
    show (blsOf (xs.map fun x => D.bl (p x))).map (p x :: ·) = _
    rw [bls_map p xs]; rfl
theorem gAll_map (p : α → Bool) (xs : List α) : gAll (.lst (xs.map fun x => D.bl (p x))) = some (.d (.bl (xs.all p))) := by
  show (blsOf _).map _ = _
  rw [bls_map p xs]
  simp [List.all_map]
theorem gAny_map (p : α → Bool) (xs : List α) : gAny (.lst (xs.map fun x => D.bl (p x))) = some (.d (.bl (xs.any p))) := by
  show (blsOf _).map _ = _
  rw [bls_map p xs]
  simp [List.any_map]
theorem ints_map (f : α → Int) : ∀ xs : List α, U.intsOf (xs.map fun x => D.int (f x)) = some (xs.map f)
  | [] => rfl
  | x :: xs => by
    show (U.intsOf (xs.map fun x => D.int (f x))).map (f x :: ·) = _
    rw [ints_map f xs]; rfl
theorem gSum_map (f : α → Int) (xs : List α) : gSum2 (.lst (xs.map fun x => D.int (f x))) = some (.d (.int (xs.map f).sum)) := by
  show (U.intsOf _).map _ = _
  rw [ints_map f xs]; rfl
/-! ### data that is compared whole -/
def okS : Nat → D → Bool
  | n, d => match d with
    | .non => true
    | .bl _ => true
    | .int _ => true
    | .str x => x.all (· < 0x110000)
    | .tup xs => (match n with
      | 0 => false
      | n + 1 => decide (xs.length < lim) && xs.all (okS n))
    | .lst xs => (match n with
      | 0 => false
      | n + 1 => decide (xs.length < lim) && xs.all (okS n))
    | _ => false
theorem okS_ok : ∀ (n : Nat) (d : D), okS n d = true → d.ok n = true := by
  intro n
  induction n with
  | zero =>
    intro d h
    cases d <;> first | rfl | (simp [okS] at h; done) | skip
    simpa [okS, D.ok] using h
  | succ n ih =>
    have all : ∀ xs : List D, xs.all (okS n) = true → D.okL xs n = true := fun xs => by
      induction xs with
      | nil => intro _; rfl
      | cons x xs ihx =>
        intro h
        rw [List.all_cons, Bool.and_eq_true] at h
        show (x.ok n && D.okL xs n) = true
        rw [ih x h.1, ihx h.2]; rfl
    intro d h
    cases d with
    | tup xs =>
      unfold okS at h
      simp only [Bool.and_eq_true, decide_eq_true_eq] at h
      show D.okL xs n = true
      exact all xs h.2
    | lst xs =>
      unfold okS at h
      simp only [Bool.and_eq_true, decide_eq_true_eq] at h
      show D.okL xs n = true
      exact all xs h.2
    | str x => simpa [okS, D.ok] using h
    | non => rfl
    | bl b => rfl
    | int i => rfl
    | _ => simp [okS] at h
theorem eqb_self : ∀ (n : Nat) (d : D), okS n d = true → d.eqb d = true := by
  intro n
  induction n with
  | zero =>
    intro d h
    cases d <;> first | (simp [okS] at h; done) | simp [D.eqb]
  | succ n ih =>
    have all : ∀ xs : List D, xs.all (okS n) = true → D.eqbL xs xs = true := fun xs => by
      induction xs with
      | nil => intro _; rfl
      | cons x xs ihx =>
        intro h
        rw [List.all_cons, Bool.and_eq_true] at h
        show (x.eqb x && D.eqbL xs xs) = true
        rw [ih x h.1, ihx h.2]; rfl
    intro d h
    cases d with
    | tup xs =>
      unfold okS at h
      simp only [Bool.and_eq_true, decide_eq_true_eq] at h
      exact all xs h.2
    | lst xs =>
      unfold okS at h
      simp only [Bool.and_eq_true, decide_eq_true_eq] at h
      exact all xs h.2
    | str x => simp [D.eqb]
    | non => rfl
    | bl b => simp [D.eqb]
    | int i => simp [D.eqb]
    | _ => simp [okS] at h
theorem zipD_self : ∀ {xs : List D} {z : D}, z ∈ zipD xs xs → ∃ x ∈ xs, z = .tup [x, x]
  | [], z, h => by simp [zipD] at h
  | x :: xs, z, h => by
    rcases List.mem_cons.mp (show z ∈ .tup [x, x] :: zipD xs xs from h) with e | h
    · exact ⟨x, List.mem_cons_self .., e⟩
    · obtain ⟨y, hy, e⟩ := zipD_self h
      exact ⟨y, List.mem_cons_of_mem _ hy, e⟩
theorem tyE : D.non.ty = some "NoneType" ∧ (∀ b, (D.bl b).ty = some "bool") ∧ (∀ b, (D.int b).ty = some "int") ∧ (∀ b, (D.str b).ty = some "str") ∧ (∀ b, (D.tup b).ty = some "tuple") ∧ (∀ b, (D.lst b).ty = some "list") := ⟨rfl, fun _ => rfl, fun _ => rfl, fun _ => rfl, fun _ => rfl, fun _ => rfl⟩
theorem isE :
    isB "NoneType" ["list", "tuple"] = false ∧ isB "bool" ["list", "tuple"] = false ∧ isB "int" ["list", "tuple"] = false ∧ isB "str" ["list", "tuple"] = false ∧ isB "tuple" ["list", "tuple"] = true ∧ isB "list" ["list", "tuple"] = true ∧
    isB "tuple" ["list"] = false ∧ isB "list" ["list"] = true ∧ isB "tuple" ["tuple"] = true ∧ isB "list" ["tuple"] = false ∧
    isB "NoneType" ["bool", "str"] = false ∧ isB "bool" ["bool", "str"] = true ∧ isB "int" ["bool", "str"] = false ∧ isB "str" ["bool", "str"] = true ∧
    isB "NoneType" ["bool"] = false ∧ isB "bool" ["bool"] = true ∧ isB "int" ["bool"] = false ∧ isB "str" ["bool"] = false ∧ isB "int" ["int"] = true := by decide
theorem eqE : (∀ n a b, gEq n (.bl a) (.bl b) = some (.d (.bl (n != (a == b))))) ∧ (∀ n d, gIs n d .non = some (.d (.bl (n != d.isNon)))) ∧ (D.non.isNon = true) ∧ (∀ b, (D.bl b).isNon = false) ∧ (∀ b, (D.int b).isNon = false) ∧ (∀ b, (D.str b).isNon = false) ∧ (∀ n, gEq n .non .non = some (.d (.bl (n != true)))) :=
  ⟨fun _ _ _ => rfl, fun _ _ => rfl, rfl, fun _ => rfl, fun _ => rfl, fun _ => rfl, fun _ => rfl⟩
end U
end

section
set_option Elab.async false
set_option linter.all false
set_option maxRecDepth 100000
/-! sorting: tuples, some of them empty; a sort that computes -/
namespace U
open PySem PySem.Spec PyProof.Rows PySem.W PySem.SeqAt
section
variable {prog : Program} {w : World} {A : Around} {E : Value → Shared → Prop} {s : Shared}
/-- tuple's own < as the sort calls it -/
theorem tup_lt_call {Q : Value → Shared → Prop} {l b : Addr} {xs ys : Array Value} {e r : Nat → Bool} (hl : s.heap.IsTuple l xs) (hb : s.heap.IsTuple b ys)
    (he : ∀ j (p : j < xs.size) (q : j < ys.size), EqAt A.in1 s xs[j] ys[j] (e j)) (hr : ∀ j (p : j < xs.size) (q : j < ys.size), e j = false → RcLt A.in1 s xs[j] ys[j] (r j))
    (h : Q (.bool (firstLt e r (decide (xs.size < ys.size)) (List.range (min xs.size ys.size)))) s) : wpAny (model prog w) A (call (.builtin "tuple.__lt__") [.ref l, .ref b]) Q E s := by
  obtain ⟨⟨c1, d1, a1, s1⟩, o1, hc1, n1, hd1⟩ := id hl
  obtain ⟨⟨c2, d2, a2, s2⟩, o2, hc2, n2, hd2⟩ := id hb
  simp only at hc1 hd1 hc2 hd2
  subst hc1 hd1 hc2 hd2
  exact call_meets F.slot_tuple_lt ⟨_, o1, rfl⟩ F.entry_tuple_lt (F.args_tuple_lt_2 _ _) (tuple_ltAt l b xs ys n1 n2 d1 d2 s1 s2 e r) ⟨o1, o2, he, hr, h⟩
theorem one_tup {xs ys : List PyData} {a b : Value} {as bs : List Addr} {Q : Bool → Shared → Prop} (ra : Reads s.heap a (.tuple xs) as) (rb : Reads s.heap b (.tuple ys) bs) (hal : alikeAll xs ys = true)
    (hu : A.units + min (PyData.tuple xs).depth (PyData.tuple ys).depth < cLine) (hq : Q (dataLt (.tuple xs) (.tuple ys)) s) : wpAny (model prog w) A (oneLt' true a b) Q E s := by
  cases ra with
  | @tuple l o vs n _ as₁ h1 h2 h3 h4 =>
    cases rb with
    | @tuple l' o' vs' n' _ bs₁ k1 k2 k3 k4 =>
      have z1 : vs.size = xs.length := by simpa using ReadsAll.length _ _ _ h4
      have z2 : vs'.size = ys.length := by simpa using ReadsAll.length _ _ _ k4
      rw [dataLt_tuple, ← firstLt_toks xs ys hal, ← z1, ← z2] at hq
      rw [oneLt'_eq]
      simp only [if_true]
      refine wpAny_bind (wpAny_cRoomFor (room_here hu) (wpAny_bind (wpAny_callSpecialIfBound?_slot (T := "tuple") ⟨_, h1, h2⟩ F.slot_tuple_lt ?_)))
      refine tup_lt_call (e := pairEq xs ys) (r := fun j => dataLt (xs.getD j .none) (ys.getD j .none)) ⟨_, h1, h2, _, h3⟩ ⟨_, k1, k2, _, k3⟩ (fun j p q => ?_) (fun j p q hj => ?_) (wpAny_truthy_bool hq)
      · have z := eqAt_alikeAll xs ys A.in1 s vs.toList vs'.toList _ _ h4 k4 hal (room_in hu) j (by simpa using p) (by simpa using q)
        simpa using z
      · have z := rcLt_alikeAll xs ys A.in1 s vs.toList vs'.toList _ _ h4 k4 hal (room_in hu) j (by simpa using p) (by simpa using q) hj
        simpa using z
theorem gen_lt (x y : Value) : keyLt' general' x y = oneLt' false x y := rfl
def emT : PyData → Bool
  | .tuple [] => true
  | _ => false
theorem emT_eq {d : PyData} (h : emT d = true) : d = .tuple [] := by
  unfold emT at h
  split at h
  · rfl
  · cases h
/-- the firsts of tuples -/
theorem firsts_any : ∀ {vs : List Value} {ds : List PyData} {Q : List (Option Value) → Shared → Prop}, EachIs (fun v d => ∃ as, Reads s.heap v d as) vs ds → (∀ d ∈ ds, ∃ xs, d = .tuple xs) →
    (∀ fs, EachIs (fun (f : Option Value) d => f.isSome = !emT d) fs ds → Q fs s) → wpAny (model prog w) A (vs.mapM firstOfTuple') Q E s
  | _, _, Q, .nil, _, h => by rw [List.mapM_nil]; exact wpAny_pure (h [] .nil)
  | _, _, Q, .cons (a := v) (b := d) (as := vs) (bs := ds) ⟨as, r⟩ t, ht, h => by
    obtain ⟨xs, rfl⟩ := ht d (List.mem_cons_self ..)
    cases r with
    | @tuple l o ys n _ _ ho hc hd hr =>
      rw [List.mapM_cons]
      refine wpAny_bind ?_
      rw [kas_first_eq]
      refine wpAny_bind (Looks.here (show Looks _ s.heap (typeOf (.ref l)) o.cls from (Looks.ld ho).andThen .now) ?_)
      rw [hc, if_neg (by first | decide | simp)]
      refine wpAny_bind (listItems_at ho hd (wpAny_pure ?_))
      refine wpAny_bind (firsts_any (Q := fun bs s' => wpAny (model prog w) A (pure (ys[0]? :: bs)) Q E s') t (fun d hd => ht d (List.mem_cons_of_mem _ hd)) fun fs hf => wpAny_pure (h _ (.cons ?_ hf)))
      have z := ReadsAll.length _ _ _ hr
      rw [Array.length_toList] at z
      cases xs with
      | nil =>
        have z0 : ys.size = 0 := z
        have : ys[0]? = none := Array.getElem?_eq_none (by omega)
        rw [this]; rfl
      | cons x xs =>
        have z0 : 0 < ys.size := by rw [z, List.length_cons]; omega
        rw [Array.getElem?_eq_getElem z0]; rfl
theorem each_len {α β : Type} {R : α → β → Prop} : ∀ {as : List α} {bs : List β}, EachIs R as bs → as.length = bs.length
  | _, _, .nil => rfl
  | _, _, .cons _ t => congrArg (· + 1) (each_len t)
theorem each_some : ∀ {fs : List (Option Value)} {ds : List PyData}, EachIs (fun (f : Option Value) d => f.isSome = !emT d) fs ds → (∃ d ∈ ds, emT d = true) → fs.all (·.isSome) = false
  | _, _, .nil, ⟨d, h, _⟩ => by cases h
  | _, _, .cons (a := f) (b := d) h t, ⟨e, he, q⟩ => by
    rw [List.all_cons]
    rcases List.mem_cons.mp he with rfl | he
    · rw [h, q]; rfl
    · rw [each_some t ⟨e, he, q⟩, Bool.and_false]
/-- tuples of which one at least is empty -/
theorem kind_empties {vs : List Value} {ds : List PyData} {Q : SortKind → Shared → Prop} (h2 : 2 ≤ vs.length) (e : EachIs (fun v d => ∃ as, Reads s.heap v d as) vs ds) (ht : ∀ d ∈ ds, ∃ xs, d = .tuple xs) (he : ∃ d ∈ ds, emT d = true)
    (h : ∀ κ, (κ = general' ∨ κ = oneType') → (κ = if ds.head?.any emT then oneType' else general') → Q κ s) : wpAny (model prog w) A (keyKind' vs.toArray) Q E s := by
  rw [kat_kind_eq, List.mapM_toArray, map_eq_pure_bind]
  refine wpAny_bind (wpAny_bind (firsts_any e ht fun fs hf => wpAny_pure ?_))
  have hall : (fs.toArray.all fun x => x.isSome) = false := by
    have := each_some hf he
    simpa using this
  rw [if_neg (by rw [hall]; exact Bool.false_ne_true)]
  cases hf with
  | nil => obtain ⟨_, hd, _⟩ := he; cases hd
  | @cons f d fs ds hf0 hft =>
    have h0 : ((f :: fs).toArray[0]?.bind id) = f := by simp
    rw [h0]
    by_cases c : emT d = true
    · have fn : f.isSome = false := by rw [hf0, c]; rfl
      rw [if_neg (by rw [fn]; exact Bool.false_ne_true), oneTypeOnly'_eq, List.mapM_toArray, map_eq_pure_bind]
      have hT : ∀ v ∈ vs, Looks (model prog w) s.heap (typeOf v) (Value.type "tuple") := fun v hv => by
        obtain ⟨x, hx, as, r⟩ := e.left v hv
        obtain ⟨xs, rfl⟩ := ht x hx
        exact looks_reads r
      refine wpAny_bind (wpAny_bind (wpAny_bind (kas_mapM (r := Value.type "tuple") _ (fun v hv Q' hq => (hT v hv).here hq) (wpAny_pure ?_))))
      obtain ⟨v1, vr, rfl⟩ : ∃ v1 vr, vs = v1 :: vr := by
        cases vs with
        | nil => simp at h2
        | cons v1 vr => exact ⟨v1, vr, rfl⟩
      have h01 : (List.map (fun _ => Value.type "tuple") (v1 :: vr)).toArray[0]? = some (Value.type "tuple") := by simp
      rw [h01]
      have hal2 : ((List.map (fun _ => Value.type "tuple") (v1 :: vr)).toArray.all fun x => x == Value.type "tuple") = true := by
        simp only [List.all_toArray, List.all_map, List.all_eq_true]
        intro _ _; rfl
      dsimp only
      rw [if_pos hal2]
      refine wpAny_pure (wpAny_pure ?_)
      exact h _ (.inr rfl) (by rw [show ((d :: ds).head?.any emT) = true from c]; rfl)
    · have c : emT d = false := by simpa using c
      have fs' : f.isSome = true := by rw [hf0, c]; rfl
      rw [if_pos fs']
      refine wpAny_pure (h _ (.inl rfl) ?_)
      rw [show ((d :: ds).head?.any emT) = false from c]; rfl
theorem sorts_tups {vs : List Value} {ds : List PyData} (e : EachIs (fun v d => ∃ as, Reads s.heap v d as) vs ds) (hal : AllAlike ds) (ht : ∀ d ∈ ds, ∃ xs, d = .tuple xs) (hu : ∀ d ∈ ds, A.units + d.depth < cLine) : SortsAt prog w A s (dataKind s.heap ds) vs := by
  by_cases c : ∃ d ∈ ds, emT d = true
  · have room : ∀ {d d' : PyData}, d ∈ ds → A.units + min d.depth d'.depth < cLine := fun {d d'} hd => Nat.lt_of_le_of_lt (Nat.add_le_add_left (Nat.min_le_left _ _) _) (hu d hd)
    refine ⟨fun v hv => ?_, (if ds.head?.any emT then oneType' else general'), ?_, fun h2 E Q hq => kind_empties h2 e ht c fun κ _ hκ => by rw [hκ]; exact hq⟩
    · obtain ⟨d, hd, as, r⟩ := e.left v hv
      exact ⟨_, dataKind_some hal hd r⟩
    · intro E x y a b Q ha hb hq
      obtain ⟨d, as, hd, ra, rfl⟩ := dataKind_inv ha
      obtain ⟨d', as', hd', rb, rfl⟩ := dataKind_inv hb
      have hdd := hal d hd d' hd'
      have hr := room (d' := d') hd
      obtain ⟨xs, rfl⟩ := ht d hd
      obtain ⟨ys, rfl⟩ := ht d' hd'
      by_cases q : ds.head?.any emT = true
      · rw [if_pos q, keyLt'_oneType]
        exact one_tup ra rb (by simpa [alike] using hdd) hr hq
      · rw [if_neg q, gen_lt]
        exact oneLt_alike (fun z => nomatch z) ra rb hdd (fun z => nomatch z) hr hq
  · refine SortsAt.data e hal (.inl fun d hd => ?_) hu
    obtain ⟨xs, rfl⟩ := ht d hd
    cases xs with
    | nil => exact absurd ⟨_, hd, rfl⟩ c
    | cons x xs => exact ⟨x, xs, rfl⟩
end
end U
end

section
set_option Elab.async false
set_option linter.all false
set_option maxRecDepth 100000
namespace U
open PySem PySem.Spec PyProof.Rows L2
/-! ### a sort that computes -/
def leD (d e : D) : Bool := !e.lt d
def insD (d : D) : List D → List D
  | [] => [d]
  | e :: es => if leD d e then d :: e :: es else e :: insD d es
def sortD : List D → List D
  | [] => []
  | d :: ds => insD d (sortD ds)
def canSort (ds : List D) : Bool := decide (ds.length ≤ lim) && ds.all (fun d => d.ok 60 && !d.isNon && ds.all (fun e => d.like e))
mutual
theorem eqb_eq : ∀ (d e : D), d.like e = true → d.eqb e = true → d = e
  | .non, e, h, q => by cases e <;> first | (simp [D.like] at h; done) | rfl
  | .bl a, e, h, q => by
    cases e <;> first | (simp [D.like] at h; done) | skip
    simp only [D.eqb, beq_iff_eq] at q; rw [q]
  | .int i, e, h, q => by
    cases e <;> first | (simp [D.like] at h; done) | skip
    simp only [D.eqb, beq_iff_eq] at q; rw [q]
  | .str x, e, h, q => by
    cases e <;> first | (simp [D.like] at h; done) | skip
    simp only [D.eqb, beq_iff_eq] at q; rw [q]
  | .tup xs, e, h, q => by
    cases e <;> first | (simp [D.like] at h; done) | skip
    simp only [D.eqb] at q
    rw [eqbL_eq xs _ (by simpa [D.like] using h) q]
  | .lst xs, e, h, q => by
    cases e <;> first | (simp [D.like] at h; done) | skip
    simp only [D.eqb] at q
    rw [eqbL_eq xs _ (by simpa [D.like] using h) q]
  | .dct _ _ _, e, h, _ => by simp [D.like] at h
  | .exc _ _, e, h, _ => by simp [D.like] at h
  | .ptp _, e, h, _ => by simp [D.like] at h
  | .scr _, e, h, _ => by simp [D.like] at h
theorem eqbL_eq : ∀ (ds es : List D), D.likeL ds es = true → D.eqbL ds es = true → ds = es
  | [], es, _, q => by cases es <;> first | rfl | simp [D.eqbL] at q
  | d :: ds, [], _, q => by simp [D.eqbL] at q
  | d :: ds, e :: es, h, q => by
    simp only [D.likeL, Bool.and_eq_true] at h
    simp only [D.eqbL, Bool.and_eq_true] at q
    rw [eqb_eq d e h.1 q.1, eqbL_eq ds es h.2 q.2]
end
abbrev leP : D → D → Bool := PySem.W.dataLe false D.py
theorem leP_tot : PySem.W.TotalLe leP := PySem.W.sortLe_total _ _ _
theorem leP_eq {d e : D} (h : e.like d = true) : leP d e = leD d e := by
  show (!PySem.W.dataLt e.py d.py) = !e.lt d
  rw [D.lt_py e d h]
theorem leP_anti {d e : D} (h : d.like e = true) (h1 : leP d e = true) (h2 : leP e d = true) : d = e := by
  have a1 : PySem.W.dataLt e.py d.py = false := by simpa [leP, PySem.W.dataLe_eq] using h1
  have a2 : PySem.W.dataLt d.py e.py = false := by simpa [leP, PySem.W.dataLe_eq] using h2
  have ek : PySem.W.keyToks d.py = PySem.W.keyToks e.py := PyProof.Rows.lex_total _ _ a2 a1
  refine eqb_eq d e h ?_
  rw [← D.eqv_py]
  cases q : PyData.eqv d.py e.py with
  | true => rfl
  | false =>
    have t := (PySem.W.toks_eqv d.py e.py (D.like_py d e h)).2 q [] [.inl 0]
    rw [ek, PyProof.Rows.lex_irrefl, List.append_nil] at t
    have : PyProof.Rows.lexLt PyProof.Rows.itemOrd (PySem.W.keyToks e.py ++ []) (PySem.W.keyToks e.py ++ [.inl 0]) = true := by
      rw [PySem.W.lex_pre]; rfl
    rw [List.append_nil, t] at this
    cases this
theorem insD_perm (d : D) : ∀ es : List D, (insD d es).Perm (d :: es)
  | [] => .refl _
  | e :: es => by
    unfold insD
    split
    · exact .refl _
    · exact ((insD_perm d es).cons e).trans (.swap ..)
theorem sortD_perm : ∀ ds : List D, (sortD ds).Perm ds
  | [] => .refl _
  | d :: ds => (insD_perm d _).trans ((sortD_perm ds).cons d)
theorem insD_sorted {d : D} : ∀ {es : List D}, (∀ e ∈ es, e.like d = true ∧ d.like e = true) → es.Pairwise (fun a b => leP a b = true) → (insD d es).Pairwise fun a b => leP a b = true
  | [], _, _ => List.pairwise_singleton _ _
  | e :: es, hl, hs => by
    have h0 := hl e (List.mem_cons_self ..)
    obtain ⟨s1, s2⟩ := List.pairwise_cons.mp hs
    unfold insD
    split
    · rename_i c
      have c' : leP d e = true := by rw [leP_eq h0.1]; exact c
      refine List.pairwise_cons.mpr ⟨fun x hx => ?_, hs⟩
      rcases List.mem_cons.mp hx with rfl | hx
      · exact c'
      · exact leP_tot.trans _ _ _ c' (s1 x hx)
    · rename_i c
      have c' : leP e d = true := by
        rcases leP_tot.total e d with q | q
        · exact q
        · rw [leP_eq h0.1] at q; exact absurd q c
      refine List.pairwise_cons.mpr ⟨fun x hx => ?_, insD_sorted (fun y hy => hl y (List.mem_cons_of_mem _ hy)) s2⟩
      rcases List.mem_cons.mp ((insD_perm d es).mem_iff.mp hx) with rfl | hx
      · exact c'
      · exact s1 x hx
theorem sortD_sorted : ∀ {ds : List D}, (∀ d ∈ ds, ∀ e ∈ ds, d.like e = true) → (sortD ds).Pairwise fun a b => leP a b = true
  | [], _ => List.Pairwise.nil
  | d :: ds, h => insD_sorted (fun e he => by
      have he' := (sortD_perm ds).mem_iff.mp he
      exact ⟨h e (List.mem_cons_of_mem _ he') d (List.mem_cons_self ..), h d (List.mem_cons_self ..) e (List.mem_cons_of_mem _ he')⟩)
      (sortD_sorted fun x hx y hy => h x (List.mem_cons_of_mem _ hx) y (List.mem_cons_of_mem _ hy))
theorem sorted_one {α : Type} {le : α → α → Prop} : ∀ {xs ys : List α}, xs.Perm ys → xs.Pairwise le → ys.Pairwise le → (∀ a ∈ xs, ∀ b ∈ xs, le a b → le b a → a = b) → xs = ys
  | [], ys, p, _, _, _ => p.symm.eq_nil.symm
  | x :: xs, [], p, _, _, _ => by cases p.eq_nil
  | x :: xs, y :: ys, p, h1, h2, anti => by
    obtain ⟨a1, a2⟩ := List.pairwise_cons.mp h1
    obtain ⟨b1, b2⟩ := List.pairwise_cons.mp h2
    have hx : x ∈ y :: ys := p.mem_iff.mp (List.mem_cons_self ..)
    have hy : y ∈ x :: xs := p.mem_iff.mpr (List.mem_cons_self ..)
    have e : x = y := by
      rcases List.mem_cons.mp hx with e | hx
      · exact e
      · rcases List.mem_cons.mp hy with e | hy'
        · exact e.symm
        · exact anti x (List.mem_cons_self ..) y hy (a1 y hy') (b1 x hx)
    subst e
    rw [sorted_one (List.Perm.cons_inv p) a2 b2 fun a ha b hb => anti a (List.mem_cons_of_mem _ ha) b (List.mem_cons_of_mem _ hb)]
theorem merge_eq {ds : List D} (h : ∀ d ∈ ds, ∀ e ∈ ds, d.like e = true) : ds.mergeSort leP = sortD ds := by
  refine sorted_one (le := fun a b => leP a b = true) ((List.mergeSort_perm ds _).trans (sortD_perm ds).symm) (List.pairwise_mergeSort (fun a b c h1 h2 => leP_tot.trans a b c h1 h2) (fun a b => by simpa using leP_tot.total a b) ds) (sortD_sorted h) fun a ha b hb h1 h2 => ?_
  exact leP_anti (h a ((List.mergeSort_perm ds _).mem_iff.mp ha) b ((List.mergeSort_perm ds _).mem_iff.mp hb)) h1 h2
end U
end

section
set_option Elab.async false
set_option linter.all false
set_option maxRecDepth 100000
namespace U
open PySem PySem.Spec PyProof.Rows L2
section
variable {prog : Program} {w : World} {A : Around} {E : Value → Shared → Prop} {s : Shared}
/-- the items of a tuple, gathered -/
theorem gather_tup {l : Addr} {vs : List Value} {Q : List Value → Shared → Prop} (hl : s.heap.IsTuple l vs.toArray) (hsz : vs.length ≤ sizeLine)
    (h : Q vs { s with heap := (s.heap.push (seqObj "list" #[] 0)).update s.heap.objs.size (Obj.mapSeq (· ++ vs.toArray)) }) : wpAny (model prog w) A (collect (.ref l)) Q E s := by
  obtain ⟨o, ho, hc, n, hd⟩ := id hl
  unfold collect
  refine wpAny_bind (wpAny_runValue (codeAny_builtin entry_proto_collect' ?_))
  show wpAny _ _ (newList [] >>= fun x => again (.builtin "list.__iadd__" ⟨[x, .ref l], []⟩)) _ _ s
  refine wpAny_bind (wpAny_newList (wpAny_pure ⟨Code.quiet_builtin _ (by decide +kernel), codeAny_builtin entry_list_iadd' ?_⟩))
  show wpAny _ _ (Builtin.List.listExtendWith (.ref s.heap.objs.size) (.ref l) (.ref s.heap.objs.size)) _ _ { s with heap := s.heap.push (seqObj "list" #[] 0) }
  unfold Builtin.List.listExtendWith
  have ho2 : (s.heap.push (seqObj "list" #[] 0)).get? l = some o := Heap.get?_push_of_some _ ho
  refine wpAny_bind (wpAny_typeOf (T := "tuple") ⟨o, ho2, hc⟩ ?_)
  rw [if_pos (by rw [show (Value.type "tuple" == Value.type "tuple") = true from rfl]; simp)]
  refine wpAny_bind (listItems_at ho2 hd (wpAny_bind (listItems_at (xs := #[]) (n := 0) (Heap.get?_push_size _ rfl) rfl ?_)))
  rw [if_neg (by simp)]
  refine wpAny_bind (listUpdate_at (xs := #[]) (n := 0) (Heap.get?_push_size _ rfl) rfl (wpAny_pure ?_) (Nat.zero_le _) (by show (#[] ++ vs.toArray).size ≤ sizeLine + 1; simp only [Array.size_append, List.size_toArray, List.length_nil]; omega))
  show wpAny (model prog w) A (load s.heap.objs.size >>= fun o => match o.data with
      | .seq xs _ => pure xs.toList
      | _ => unsupported "internal:collect") Q E { s with heap := (s.heap.push (seqObj "list" #[] 0)).update s.heap.objs.size (Obj.mapSeq (· ++ vs.toArray)) }
  refine wpAny_bind (wpAny_load (get?_update_seq (Heap.get?_push_size _ rfl) _) ?_)
  show wpAny _ _ (pure ((#[] : Array Value) ++ vs.toArray).toList) Q E _
  rw [show ((#[] : Array Value) ++ vs.toArray).toList = vs by simp]
  exact wpAny_pure h
theorem sorted_seq {κ : PyProof.Rows.KeyKind} {l : Addr} {vs : List Value} {Q : Value → Shared → Prop} (hl : s.heap.IsList l vs.toArray ∨ s.heap.IsTuple l vs.toArray) (hL : vs.length ≤ sizeLine)
    (S : PySem.W.SortsAt prog w A.in1.in1 { s with heap := PySem.W.sortingHeap (PySem.W.copyHeap s.heap vs) (s.heap.objs.size + 1) vs } κ vs)
    (h : Q (.ref (s.heap.objs.size + 1)) { s with heap := sortedAll s.heap vs (PySem.W.sortVals κ false vs vs).toArray }) : wpAny (model prog w) A (call (.builtin "sorted") [.ref l]) Q E s := by
  rcases hl with hl | hl
  · exact PySem.W.sorted_vals hl S hL h
  · refine Calls.call_function_entry kind_sorted plain_sorted entry_sorted (args_sorted1 _) ?_
    unfold Builtin.«sorted»
    refine wpAny_bind (m := checkCount "sorted" 1 1 _) (wpAny_pure (wpAny_bind (gather_tup hl hL (wpAny_bind (wpAny_newList ?_ hL)))))
    have hsz : ((s.heap.push (seqObj "list" #[] 0)).update s.heap.objs.size (Obj.mapSeq (· ++ vs.toArray))).objs.size = s.heap.objs.size + 1 := by rw [Heap.size_update, size_push']
    show wpAny _ _ _ _ _ { s with heap := PySem.W.copyHeap s.heap vs }
    rw [hsz]
    refine wpAny_bind (wpAny_holding (wpAny_call_entry slot_list_sort ⟨_, PySem.W.copyHeap_at s.heap vs, rfl⟩ entry_list_sort (PySem.W.list_sort_vals (s := { s with heap := PySem.W.copyHeap s.heap vs }) (PySem.W.copyHeap_at s.heap vs) S hL ⟨_, rfl, ?_⟩) (args_list_sort _)))
    exact wpAny_pure ⟨_, rfl, h⟩
end
theorem pyL_map : ∀ ds : List D, D.pyL ds = ds.map D.py
  | [] => rfl
  | d :: ds => by simp only [D.pyL, List.map_cons, pyL_map ds]
theorem each_reads {h : Heap} : ∀ {us : List Value} {ds : List D} {as : List Addr}, ReadsAll h us (D.pyL ds) as → PySem.W.EachIs (fun v d => ∃ as, Reads h v (D.py d) as) us ds
  | _, [], _, r => by rw [D.pyL] at r; cases r; exact .nil
  | _, d :: ds, _, r => by
    rw [D.pyL] at r
    cases r with
    | cons r1 r2 => exact .cons ⟨_, r1⟩ (each_reads r2)
def isTup : D → Bool
  | .tup _ => true
  | _ => false
theorem py_tup {d : D} (h : isTup d = true) : ∃ xs, d.py = .tuple xs := by
  cases d <;> first | (simp [isTup] at h; done) | (simp only [D.py]; exact ⟨_, rfl⟩)
theorem py_nontup {d : D} (h : isTup d = false) : ∀ xs, d.py ≠ .tuple xs := by
  cases d <;> first | (simp [isTup] at h; done) | (simp only [D.py]; intro xs z; cases z)
theorem like_tup {d e : D} (h : d.like e = true) : isTup d = isTup e := by
  cases d <;> cases e <;> first | rfl | (simp [D.like] at h)
/-- what canSort says -/
structure CanSort (ds : List D) : Prop where
  len : ds.length ≤ lim
  ok : ∀ d ∈ ds, d.ok 60 = true
  non : ∀ d ∈ ds, d.isNon = false
  like : ∀ d ∈ ds, ∀ e ∈ ds, d.like e = true
theorem canSort_of {ds : List D} (h : canSort ds = true) : CanSort ds := by
  unfold canSort at h
  rw [Bool.and_eq_true, decide_eq_true_eq] at h
  have q := List.all_eq_true.mp h.2
  refine ⟨h.1, fun d hd => ?_, fun d hd => ?_, fun d hd e he => ?_⟩
  · have := q d hd; simp only [Bool.and_eq_true] at this; exact this.1.1
  · have := q d hd; simp only [Bool.and_eq_true, Bool.not_eq_true'] at this; exact this.1.2
  · have := q d hd; simp only [Bool.and_eq_true] at this; exact List.all_eq_true.mp this.2 e he
theorem canSort_iff {ds : List D} (h : CanSort ds) : canSort ds = true := by
  unfold canSort
  rw [Bool.and_eq_true, decide_eq_true_eq]
  refine ⟨h.len, List.all_eq_true.mpr fun d hd => ?_⟩
  simp only [Bool.and_eq_true, Bool.not_eq_true']
  exact ⟨⟨h.ok d hd, h.non d hd⟩, List.all_eq_true.mpr fun e he => h.like d hd e he⟩
theorem CanSort.sub {ds es : List D} (h : CanSort ds) (hs : ∀ e ∈ es, e ∈ ds) (hl : es.length ≤ ds.length) : CanSort es :=
  ⟨Nat.le_trans hl h.len, fun d hd => h.ok d (hs d hd), fun d hd => h.non d (hs d hd), fun d hd e he => h.like d (hs d hd) e (hs e he)⟩
/-- such values can be sorted -/
theorem sorts_D {prog : Program} {w : World} {A : Around} {s : Shared} {us : List Value} {ds : List D} (c : CanSort ds) (er : PySem.W.EachIs (fun v d => ∃ as, Reads s.heap v (D.py d) as) us ds) (hu : A.units + 61 < cLine) :
    PySem.W.SortsAt prog w A s (PySem.W.dataKind s.heap (ds.map D.py)) us := by
  have hal : PySem.W.AllAlike (ds.map D.py) := fun x hx y hy => by
    obtain ⟨d, hd, rfl⟩ := List.mem_map.mp hx
    obtain ⟨e, he, rfl⟩ := List.mem_map.mp hy
    exact D.like_py d e (c.like d hd e he)
  have hub : ∀ x ∈ ds.map D.py, A.units + x.depth < cLine := fun x hx => by
    obtain ⟨d, hd, rfl⟩ := List.mem_map.mp hx
    have := (D.ok_lay d 60 (c.ok d hd)).2
    omega
  have em := PySem.W.each_map (R := fun v d => ∃ as, Reads s.heap v d as) D.py er
  by_cases t : ∀ d ∈ ds, isTup d = true
  · refine sorts_tups em hal (fun x hx => ?_) hub
    obtain ⟨d, hd, rfl⟩ := List.mem_map.mp hx
    exact py_tup (t d hd)
  · refine PySem.W.SortsAt.data em hal (.inr fun x hx => ?_) hub
    obtain ⟨d, hd, rfl⟩ := List.mem_map.mp hx
    have ht : isTup d = false := by
      cases q : isTup d with
      | false => rfl
      | true => exact absurd (fun e he => by rw [← like_tup (c.like d hd e he)]; exact q) t
    exact ⟨py_ne_none (c.non d hd), py_nontup ht⟩
def gSorted : D → Option PR
  | .lst ds => if canSort ds then some (.o (.l (sortD ds))) else none
  | .tup ds => if canSort ds then some (.o (.l (sortD ds))) else none
  | _ => none
theorem okL_of {ds : List D} {n : Nat} : (∀ d ∈ ds, d.ok n = true) → D.okL ds n = true := by
  induction ds with
  | nil => intro _; rfl
  | cons d ds ih =>
    intro h
    simp only [D.okL, Bool.and_eq_true]
    exact ⟨h d (List.mem_cons_self ..), ih fun e he => h e (List.mem_cons_of_mem _ he)⟩
/-- a value that stands for d -/
def Stands (K : PySem.W.Frag) (F : Hp) (v : Value) (d : D) : Prop := ∃ x : V, RelV x v ∧ Rep K F x d
theorem each_stands {K : PySem.W.Frag} {F : Hp} : ∀ {xs : List V} {us : List Value} {ds : List D}, Vals xs us → RepL K F xs ds → PySem.W.EachIs (Stands K F) us ds
  | _, _, _, .nil, .nil => .nil
  | _, _, _, .cons r t, .cons h q => .cons ⟨_, r, h⟩ (each_stands t q)
theorem stands_each {K : PySem.W.Frag} {F : Hp} : ∀ {us : List Value} {ds : List D}, PySem.W.EachIs (Stands K F) us ds → ∃ xs : List V, Vals xs us ∧ RepL K F xs ds
  | _, _, .nil => ⟨[], .nil, .nil⟩
  | _, _, .cons ⟨x, r, h⟩ t => by
    obtain ⟨xs, a, b⟩ := stands_each t
    exact ⟨x :: xs, .cons r a, .cons h b⟩
theorem each_keep {h h' : Heap} (k : ∀ b o, h.get? b = some o → h'.get? b = some o) : ∀ {us : List Value} {ds : List D}, PySem.W.EachIs (fun v d => ∃ as, Reads h v (D.py d) as) us ds → PySem.W.EachIs (fun v d => ∃ as, Reads h' v (D.py d) as) us ds
  | _, _, .nil => .nil
  | _, _, .cons ⟨as, r⟩ t => .cons ⟨as, Reads.keeps k r⟩ (each_keep k t)
section
variable {X : Cx}
theorem sorted_core (hu : X.A.units + 64 < cLine) {pins : List (Addr × Obj)} {s : Shared} {σ : St} {H F : Hp} {Q : VK} {l : Addr} {vs : List V} {its : List Value} {ds : List D} (I : Inv X pins σ H s) (sb : Sub F H) (rv : Vals vs its) (r1 : RepL X.K F vs ds)
    (hl : s.heap.IsList l its.toArray ∨ s.heap.IsTuple l its.toArray) (c : CanSort ds) (pw : PW X.K F H (.o (.l (sortD ds))) Q) : wpAny (model X.prog X.w) X.A (call (.builtin "sorted") [.ref l]) (EP X pins σ Q) X.xe s := by
  obtain ⟨as, ra⟩ := Dp.readsAll I (D.pyL ds) vs its (r1.dp sb (okL_of c.ok)) rv
  have er := each_reads ra
  have hlen : its.length = ds.length := by rw [← rv.length, r1.length]
  have hz : its.length ≤ sizeLine := by rw [hlen]; exact lim_ok c.len
  have k : ∀ b o, s.heap.get? b = some o → (PySem.W.sortingHeap (PySem.W.copyHeap s.heap its) (s.heap.objs.size + 1) its).get? b = some o := fun b o e => PySem.W.sorting_copy_old e
  have er2 := each_keep k er
  have hal : PySem.W.AllAlike (ds.map D.py) := fun x hx y hy => by
    obtain ⟨d, hd, rfl⟩ := List.mem_map.mp hx
    obtain ⟨e, he, rfl⟩ := List.mem_map.mp hy
    exact D.like_py d e (c.like d hd e he)
  refine sorted_seq hl hz (sorts_D (s := { s with heap := PySem.W.sortingHeap (PySem.W.copyHeap s.heap its) (s.heap.objs.size + 1) its }) c er2 (by show X.A.units + 1 + 1 + 61 < cLine; omega)) ?_
  have out := PySem.W.sortVals_data (R := Stands X.K F) false (each_stands rv r1) er2 hal
  rw [show ds.mergeSort (PySem.W.dataLe false D.py) = sortD ds from merge_eq c.like] at out
  obtain ⟨xs, v1, v2⟩ := stands_each out
  generalize PySem.W.sortVals _ false its its = ov at out v1 ⊢
  obtain ⟨ep, he⟩ := sortedAll_at s.heap its ov.toArray
  have hxl : xs.length ≤ sizeLine := by rw [v2.length, (sortD_perm ds).length_eq]; exact lim_ok c.len
  exact ⟨.ref _, upd H (s.heap.objs.size + 1) (.lst xs), I.laid (t' := s.toks) (fun _ _ => sortedAll_old) (Nat.le_succ _) ⟨hxl, ov, ep, v1, he⟩, rfl, pw.lst sb v2 _ (I.hok.fresh (Nat.le_succ _))⟩
theorem cr_sortedU (hu : X.A.units + 64 < cLine) : CallR X (.builtin "sorted") (rC X.K (g1 gSorted)) := by
  intro pins s σ H xs us Q I rs ⟨F, ds, r, sb, n, hg, pw⟩
  obtain ⟨d, rfl, hg⟩ := g1_some hg
  obtain ⟨x, rfl, n1⟩ := n.one
  cases d with
  | lst ds =>
    unfold gSorted at hg
    obtain ⟨c, rfl⟩ := ite_some hg
    obtain ⟨a, vs, rfl, ha, r1⟩ := n1.lst sb
    obtain ⟨its, rv, pl, _⟩ := I.list (.inl (.of ha))
    rw [Vals.ref1 rs]
    exact sorted_core hu I sb rv r1 (.inl pl.isList) (canSort_of c) pw
  | tup ds =>
    unfold gSorted at hg
    obtain ⟨c, rfl⟩ := ite_some hg
    obtain ⟨a, vs, rfl, ha, r1⟩ := n1.tup sb
    obtain ⟨its, rv, pl, _⟩ := I.tuple (.inl (.of ha))
    rw [Vals.ref1 rs]
    exact sorted_core hu I sb rv r1 (.inr pl) (canSort_of c) pw
  | _ => cases hg
end
end U
end

section
set_option Elab.async false
set_option linter.all false
set_option maxRecDepth 100000
/-! sets of nested tuples -/
namespace U
open PySem PySem.Spec PyProof.Rows L2
abbrev NK := NestedKey
abbrev IsN (h : Heap) (k : NK) (a : Addr) : Prop := NestedIs h k (.ref a) ∧ k.depth ≤ 8
section
variable {P : Program} {w : World} {A : Around} {E : Value → Shared → Prop} {s : Shared}
theorem loop_false {f : Value → Sem Bool} : ∀ (vs : List Value) {Q : Option Bool × PUnit → Shared → Prop}, (∀ v ∈ vs, ∀ (R : Bool → Shared → Prop), R false s → wpAny (model P w) A (f v) R E s) → Q (none, ⟨⟩) s →
    wpAny (model P w) A (forIn vs (none, ⟨⟩) fun y r => do if ← f y then pure (ForInStep.done (some true, ⟨⟩)) else pure (ForInStep.yield (none, ⟨⟩))) Q E s
  | [], Q, _, h => by rw [List.forIn_nil]; exact wpAny_pure h
  | v :: vs, Q, hf, h => by
    rw [List.forIn_cons]
    refine wpAny_bind (wpAny_bind (hf v (List.mem_cons_self ..) _ ?_))
    simp only [Bool.false_eq_true, if_false]
    exact wpAny_pure (loop_false vs (fun u hu => hf u (List.mem_cons_of_mem _ hu)) h)
mutual
theorem ofA_key : ∀ (k : NK) (v : Value) (n : Nat) (R : Bool → Shared → Prop), NestedIs s.heap k v → k.depth ≤ n → R false s → wpAny (model P w) A (ofAClassStatement n v) R E s
  | .none, _, n, R, h, _, q => by cases h; cases n <;> exact wpAny_pure q
  | .num i, _, n, R, h, _, q => by cases h <;> cases n <;> exact wpAny_pure q
  | .text x, _, n, R, h, _, q => by cases h; cases n <;> exact wpAny_pure q
  | .tup ks, _, n, R, h, hd, q => by
    cases h with
    | @tup b o vs m _ ho hc hs hk =>
      have e1 : NestedKey.depth (.tup ks) = NestedKey.depthAll ks + 1 := by simp only [NestedKey.depth]
      rw [e1] at hd
      obtain ⟨n, rfl⟩ : ∃ m, n = m + 1 := ⟨n - 1, by omega⟩
      unfold ofAClassStatement
      refine wpAny_bind (wpAny_typeOf (T := "tuple") ⟨o, ho, hc⟩ ?_)
      dsimp only
      simp only [show (("tuple" : String) == "tuple") = true from by decide, if_true]
      first | refine wpAny_bind (wpAny_pure ?_) | skip
      simp only [Bool.not_true, Bool.false_eq_true, if_false]
      first | refine wpAny_bind (wpAny_seqItems ho hs ?_) | (show wpAny _ _ (seqItems? (.ref b) >>= _) _ _ s; refine wpAny_bind (wpAny_seqItems ho hs ?_))
      dsimp only
      refine wpAny_bind ?_
      show wpAny _ _ (forIn vs _ _) _ _ s
      rw [← Array.forIn_toList]
      refine loop_false vs.toList (fun v hv R' q' => ?_) ?_
      · exact ofA_keys ks vs.toList n hk (by omega) v hv R' q'
      · dsimp only
        exact wpAny_pure q
theorem ofA_keys : ∀ (ks : List NK) (vs : List Value) (n : Nat), NestedAll s.heap ks vs → NestedKey.depthAll ks ≤ n → ∀ v ∈ vs, ∀ (R : Bool → Shared → Prop), R false s → wpAny (model P w) A (ofAClassStatement n v) R E s
  | [], _, n, h, _ => by cases h; intro v hv; cases hv
  | k :: ks, _, n, h, hd => by
    cases h with
    | cons h1 h2 =>
      have e : NestedKey.depthAll (k :: ks) = max k.depth (NestedKey.depthAll ks) := by simp only [NestedKey.depthAll]
      rw [e] at hd
      intro v hv R q
      rcases List.mem_cons.mp hv with rfl | hv
      · exact ofA_key k _ n R h1 (by omega) q
      · exact ofA_keys ks _ n h2 (by omega) v hv R q
end
/-- hashByValue tells one of both -/
theorem loop_any {f : Value → Sem Bool} : ∀ (vs : List Value) {Q : Option Bool × PUnit → Shared → Prop}, (∀ v ∈ vs, ∀ (R : Bool → Shared → Prop), (∀ b, R b s) → wpAny (model P w) A (f v) R E s) → Q (none, ⟨⟩) s → Q (some false, ⟨⟩) s →
    wpAny (model P w) A (forIn vs (none, ⟨⟩) fun y r => do if !(← f y) then pure (ForInStep.done (some false, ⟨⟩)) else pure (ForInStep.yield (none, ⟨⟩))) Q E s
  | [], Q, _, h, _ => by rw [List.forIn_nil]; exact wpAny_pure h
  | v :: vs, Q, hf, h, h' => by
    rw [List.forIn_cons]
    refine wpAny_bind (wpAny_bind (hf v (List.mem_cons_self ..) _ fun b => ?_))
    cases b with
    | true =>
      simp only [Bool.not_true, Bool.false_eq_true, if_false]
      exact wpAny_pure (loop_any vs (fun u hu => hf u (List.mem_cons_of_mem _ hu)) h h')
    | false =>
      simp only [Bool.not_false, if_true]
      exact wpAny_pure (wpAny_pure h')
mutual
theorem hbv_key : ∀ (k : NK) (v : Value) (n : Nat) (R : Bool → Shared → Prop), NestedIs s.heap k v → (∀ b, R b s) → wpAny (model P w) A (hashByValue n v) R E s
  | .none, _, n, R, h, q => by cases h; cases n <;> exact wpAny_pure (q _)
  | .num i, _, n, R, h, q => by cases h <;> cases n <;> exact wpAny_pure (q _)
  | .text x, _, n, R, h, q => by cases h; cases n <;> exact wpAny_pure (q _)
  | .tup ks, _, n, R, h, q => by
    cases h with
    | @tup b o vs m _ ho hc hs hk =>
      cases n with
      | zero => exact wpAny_pure (q _)
      | succ n =>
        unfold hashByValue
        refine wpAny_bind (wpAny_specialOf (T := "tuple") ⟨o, ho, hc⟩ F.slot_tuple_hash.lookup ?_)
        show wpAny _ _ (seqItems? (.ref b) >>= _) _ _ s
        refine wpAny_bind (wpAny_seqItems ho hs (wpAny_bind ?_))
        show wpAny _ _ (forIn vs _ _) _ _ s
        rw [← Array.forIn_toList]
        refine loop_any vs.toList (fun v hv R' q' => hbv_keys ks vs.toList n hk v hv R' q') ?_ ?_
        · exact wpAny_pure (q _)
        · exact wpAny_pure (q _)
theorem hbv_keys : ∀ (ks : List NK) (vs : List Value) (n : Nat), NestedAll s.heap ks vs → ∀ v ∈ vs, ∀ (R : Bool → Shared → Prop), (∀ b, R b s) → wpAny (model P w) A (hashByValue n v) R E s
  | [], _, n, h => by cases h; intro v hv; cases hv
  | k :: ks, _, n, h => by
    cases h with
    | cons h1 h2 =>
      intro v hv R q
      rcases List.mem_cons.mp hv with rfl | hv
      · exact hbv_key k _ n R h1 q
      · exact hbv_keys ks _ n h2 v hv R q
end
end
end U
end

section
set_option Elab.async false
set_option linter.all false
set_option maxRecDepth 100000
namespace U
open PySem PySem.Spec PyProof.Rows L2
abbrev hN (w : World) (k : NK) : Int := k.hash w
def rowsN (w : World) (L : List (Addr × NK)) : List (Int × Value) := L.map fun p => (hN w p.2, Value.ref p.1)
/-- the set at a holds the tuples L -/
structure SetN (w : World) (h : Heap) (a : Addr) (L : List (Addr × NK)) (es : Array (Int × Value)) (ep : Nat) (t : SetTable) : Prop where
  ob : ∃ o, h.get? a = some o ∧ o.ExactSet ∧ o.data = .set es ep t
  rows : es.toList = rowsN w L
  tab : TabOk t (L.map fun p => hN w p.2)
  nd : (L.map (·.2)).Nodup
  key : ∀ p ∈ L, IsN h p.2 p.1
  led : w.params.followText "set-order" = true ∨ t.led = true
  room : L.length * 5 < t.mask * 3
  few : L.length < 64
section
variable {P : Program} {w : World} {A : Around} {E : Value → Shared → Prop} {s : Shared}
theorem seen_key {k : NK} {b : Addr} {Q : Bool → Shared → Prop} (hk : IsN s.heap k b) : ∀ {ys : List Value}, (∀ y ∈ ys, ∃ k' c, y = Value.ref c ∧ IsN s.heap k' c) → Q false s → wpAny (model P w) A (searchCouldBeSeen (.ref b) ys) Q E s := by
  intro ys hy h
  unfold searchCouldBeSeen
  refine wpAny_bind (wpAny_forIn_list _ (fun rest r s' => r.1 = none ∧ s' = s ∧ ∀ y ∈ rest, ∃ k' c, y = Value.ref c ∧ IsN s.heap k' c) _ ?_ ?_ _ _ ⟨rfl, rfl, hy⟩)
  · rintro v rest r s' ⟨hr, rfl, hall⟩
    obtain ⟨k', c, rfl, hc⟩ := hall v List.mem_cons_self
    have more : ∀ y ∈ rest, ∃ k' c, y = Value.ref c ∧ IsN s'.heap k' c := fun u hu => hall u (List.mem_cons_of_mem _ hu)
    dsimp only
    by_cases hv : (b == c || (carriedByValue (.ref b) && carriedByValue (.ref c))) = true
    · exact wp_if_pos hv (wpAny_pure ⟨rfl, rfl, more⟩)
    · refine wp_if_neg hv (wpAny_bind (quiet_key k _ 8 _ hk.1 hk.2 A E _ ?_))
      simp only [Bool.not_true, Bool.false_eq_true, if_false]
      refine wpAny_bind (quiet_key k' _ 8 _ hc.1 hc.2 A E _ ?_)
      simp only [Bool.not_true, Bool.false_eq_true, if_false]
      refine wpAny_bind (ofA_key k _ 8 _ hk.1 hk.2 ?_)
      simp only [Bool.false_eq_true, if_false]
      refine wpAny_bind (ofA_key k' _ 8 _ hc.1 hc.2 ?_)
      simp only [Bool.false_eq_true, if_false]
      exact wpAny_pure ⟨rfl, rfl, more⟩
  · rintro ⟨r1, r2⟩ s' ⟨hr, rfl, _⟩
    simp only at hr
    subst hr
    exact wpAny_pure h
variable {a : Addr} {L : List (Addr × NK)} {es : Array (Int × Value)} {ep : Nat} {t : SetTable}
theorem rowsN_len {L : List (Addr × NK)} {es : Array (Int × Value)} (h : es.toList = rowsN w L) : es.size = L.length := by
  have q := congrArg List.length h
  unfold rowsN at q
  rwa [Array.length_toList, List.length_map] at q
theorem SetN.size (R : SetN w s.heap a L es ep t) : es.size = L.length := rowsN_len R.rows
theorem fits_of {hs : List Int} {t : SetTable} {n : Nat} (T : TabOk t hs) (hn : hs.length = n) (hm : n ≤ t.mask) : t.fits n = true := by
  have z := T.sz
  unfold SetTable.fits SetTable.fill
  rw [T.dm, Bool.and_eq_true, beq_iff_eq, decide_eq_true_eq]
  show t.place.size = n ∧ t.place.size + 0 ≤ t.mask
  omega
theorem SetN.fits (R : SetN w s.heap a L es ep t) : t.fits es.size = true := by
  have := R.room
  refine fits_of R.tab (by rw [List.length_map, R.size]) (by rw [R.size]; omega)
theorem SetN.entry (R : SetN w s.heap a L es ep t) {i : Nat} {p : Addr × NK} (h : L[i]? = some p) : es[i]? = some (hN w p.2, Value.ref p.1) := by
  rw [← Array.getElem?_toList, R.rows]
  unfold rowsN
  rw [List.getElem?_map, h]; rfl
theorem SetN.gw (R : SetN w s.heap a L es ep t) : ¬ t.gaveWay = true := by
  unfold SetTable.gaveWay
  rw [mask_odd R.tab.mok]; decide
abbrev st0 (t : SetTable) (h : Int) : SetTable.Probe := runAt t.mask (SetTable.bits h % (t.mask + 1)) (SetTable.bits h)
theorem nth_nodummy (m : Nat) : ∀ (n : Nat) (p : SetTable.Probe), p.dummy = none → (nth m p n).dummy = none
  | 0, p, h => h
  | n + 1, p, h => nth_nodummy m n (adv m p) (by unfold adv; split <;> exact h)
/-- the search, from its c-th step on -/
theorem look_from (R : SetN w s.heap a L es ep t) {x : Addr} {k : NK} (hx : IsN s.heap k x) (hu : A.units + 8 < cLine) {K : Nat} (hKf : K < 10 * SetTable.turns t.mask)
    (hK : way t.mask (hN w k) K ∉ t.place.toList) (hKb : ∀ c, c < K → way t.mask (hN w k) c ∈ t.place.toList) {Q : SetFound → Shared → Prop}
    (hin : k ∈ L.map (·.2) → Q (.there none) s) (hout : k ∉ L.map (·.2) → Q (.free (way t.mask (hN w k) K) false) s) :
    ∀ (f c : Nat) (stand : Option SetTable.Probe), stand.getD (t.probeStart (hN w k)) = nth t.mask (st0 t (hN w k)) c → c ≤ K → K - c < f →
      (∀ (i : Nat) p, L[i]? = some p → p.2 = k → ∃ c', c ≤ c' ∧ c' < K ∧ t.place.toList[i]? = some (way t.mask (hN w k) c')) → wpAny (model P w) A (setSearchFrom a (.ref x) (hN w k) true f stand) Q E s
  | 0, c, stand, _, _, hf, _ => absurd hf (Nat.not_lt_zero _)
  | f + 1, c, stand, hst, hc, hf, hre => by
    obtain ⟨o, ho, hex, hd⟩ := R.ob
    rw [setSearchFrom_succ]
    refine wpAny_bind (wpAny_setState_of ho hd R.fits ?_)
    dsimp only
    refine wp_if_neg R.gw ?_
    try refine wpAny_bind (wpAny_pure ?_)
    have nod : (nth t.mask (st0 t (hN w k)) c).dummy = none := nth_nodummy t.mask c _ rfl
    have e1 : ∀ q, (nth t.mask (nth t.mask (st0 t (hN w k)) c) q).j = way t.mask (hN w k) (c + q) := fun q => congrArg SetTable.Probe.j (nth_add t.mask c _ q).symm
    have spec := go_spec t R.tab.ris R.tab.dm (fun i => (es[i]?.map (·.1)).getD 0) (hN w k) (10 * SetTable.turns t.mask) (K - c) _ nod (by omega) (fun q hq => by rw [e1]; exact hKb (c + q) (by omega)) (by rw [e1, show c + (K - c) = K by omega]; exact hK)
    have hashAt : ∀ (i : Nat) p, L[i]? = some p → (fun i => (es[i]?.map (·.1)).getD 0) i = hN w p.2 := fun i p hp => by
      show (es[i]?.map (·.1)).getD 0 = _
      rw [R.entry hp]; rfl
    rcases spec with ⟨q, i, hq, hi, hh, hno, hpr⟩ | ⟨hno, hpr⟩
    · have hpr' : t.probe (fun i => (es[i]?.map (·.1)).getD 0) (hN w k) (stand.getD (t.probeStart (hN w k))) = some (.candidate (way t.mask (hN w k) (c + q)) i (nth t.mask (st0 t (hN w k)) (c + (q + 1)))) := by
        rw [hst, ← e1, nth_add]
        exact hpr
      rw [hpr']
      dsimp only
      rw [e1] at hi
      have hil : i < L.length := by
        have z1 : i < t.place.toList.length := (List.getElem?_eq_some_iff.mp hi).1
        have z2 := R.tab.sz
        rw [List.length_map] at z2
        rw [Array.length_toList] at z1
        omega
      have hp : L[i]? = some L[i] := List.getElem?_eq_getElem hil
      generalize L[i] = p at hp
      have hmem : p ∈ L := List.mem_of_getElem? hp
      have hpt := R.key p hmem
      have rest : wpAny (model P w) A (searchRest a (.ref x) (hN w k) true f es t (way t.mask (hN w k) (c + q)) i (nth t.mask (st0 t (hN w k)) (c + (q + 1)))) Q E s := by
        unfold searchRest
        rw [R.entry hp]
        dsimp only
        refine wpAny_bind (wpAny_holding ((nestedKind P w).eqBool hu hpt hx (wpAny_bind (wpAny_setState_of ho hd R.fits ?_))))
        dsimp only
        by_cases hkk : p.2 = k
        · exact wp_if_pos (by simp [hkk]) (wpAny_pure (hin (List.mem_map.mpr ⟨p, hmem, hkk⟩)))
        · refine wp_if_neg (by simp [hkk]) ?_
          try refine wpAny_bind (wpAny_pure ?_)
          rw [sameMem]
          dsimp only
          simp only [if_true, slot_live R.tab.ris hi, R.entry hp]
          refine wpAny_bind (wpAny_isSame_ref_self (wpAny_bind (wpAny_pure ?_)))
          simp only [if_true]
          refine wp_if_neg (by simp [hkk]) (look_from R hx hu hKf hK hKb hin hout f (c + (q + 1)) _ rfl (by omega) (by omega) fun i0 p0 h0 hk0 => ?_)
          obtain ⟨c', a1, a2, a3⟩ := hre i0 p0 h0 hk0
          refine ⟨c', ?_, a2, a3⟩
          have hne : c' ≠ c + q := fun ec => by
            rw [ec] at a3
            have same : i0 = i := by
              rcases Nat.lt_trichotomy i0 i with z | z | z
              · exact absurd (ris_lt R.tab.ris a3 hi z) (Nat.lt_irrefl _)
              · exact z
              · exact absurd (ris_lt R.tab.ris hi a3 z) (Nat.lt_irrefl _)
            rw [same, hp] at h0
            exact hkk ((congrArg Prod.snd (Option.some.inj h0)).trans hk0)
          have hnl : ¬ c' < c + q := fun z => hno (c' - c) i0 (by omega) (by rw [e1, show c + (c' - c) = c' by omega]; exact a3) ((hashAt i0 p0 h0).trans (congrArg (hN w) hk0))
          omega
      by_cases hled : t.led = true
      · refine wp_if_neg (by simp [hled]) ?_
        first | exact rest | exact wpAny_bind (wpAny_pure rest)
      · have seen : wpAny (model P w) A (searchCouldBeSeen (.ref x) ((es.filter (·.1 == hN w k)).toList.map (·.2))) (fun b s' => b = false ∧ s' = s) E s := by
          refine seen_key hx (fun y hy => ?_) ⟨rfl, rfl⟩
          obtain ⟨e, he, rfl⟩ := List.mem_map.mp hy
          have he2 : e ∈ es.toList := by
            rw [Array.toList_filter] at he
            exact (List.mem_filter.mp he).1
          rw [R.rows] at he2
          obtain ⟨p', hp', rfl⟩ := List.mem_map.mp he2
          exact ⟨p'.2, p'.1, rfl, R.key p' hp'⟩
        first
          | (refine wp_if_pos (by simp [hled]) (wpAny_bind (wpAny_mono seen (fun b s' hb => ?_) fun _ _ z => z)); obtain ⟨rfl, rfl⟩ := hb; refine wp_if_neg (by simp) ?_; first | exact rest | exact wpAny_bind (wpAny_pure rest))
          | (refine wpAny_bind (wp_if_pos (by simp [hled]) (wpAny_bind (wpAny_mono seen (fun b s' hb => ?_) fun _ _ z => z))); obtain ⟨rfl, rfl⟩ := hb; refine wp_if_neg (by simp) ?_; exact wpAny_pure rest)
    · have hpr' : t.probe (fun i => (es[i]?.map (·.1)).getD 0) (hN w k) (stand.getD (t.probeStart (hN w k))) = some (.empty (way t.mask (hN w k) K) none) := by
        rw [hst]
        have z := e1 (K - c)
        rw [show c + (K - c) = K by omega] at z
        rw [← z]
        exact hpr
      rw [hpr']
      dsimp only
      refine wpAny_pure (hout fun hm => ?_)
      obtain ⟨p, hp, hk⟩ := List.mem_map.mp hm
      obtain ⟨i, hi⟩ := List.mem_iff_getElem?.mp hp
      obtain ⟨c', a1, a2, a3⟩ := hre i p hi hk
      exact hno (c' - c) i (by omega) (by rw [e1, show c + (c' - c) = c' by omega]; exact a3) ((hashAt i p hi).trans (congrArg (hN w) hk))
theorem look_at (R : SetN w s.heap a L es ep t) {x : Addr} {k : NK} (hx : IsN s.heap k x) (hu : A.units + 8 < cLine) {Q : SetFound → Shared → Prop} (hin : k ∈ L.map (·.2) → Q (.there none) s)
    (hout : ∀ K, k ∉ L.map (·.2) → way t.mask (hN w k) K ∉ t.place.toList → (∀ c, c < K → way t.mask (hN w k) c ∈ t.place.toList) → Q (.free (way t.mask (hN w k) K) false) s) : wpAny (model P w) A (setSearch a (.ref x) (hN w k) true) Q E s := by
  have hroom := R.room
  obtain ⟨K, hKf, hK, hKb⟩ := R.tab.first (by rw [List.length_map]; omega) (hN w k)
  have hbig : K < 100000 := by
    have : 10 * SetTable.turns t.mask ≤ 1420 := by
      unfold SetTable.turns
      rcases R.tab.mok with e | e | e <;> omega
    omega
  unfold setSearch
  refine look_from R hx hu hKf hK hKb hin (fun hn => hout K hn hK hKb) 100000 0 none rfl (Nat.zero_le _) (by omega) fun i p hp hk => ?_
  have hi : (L.map fun p => hN w p.2)[i]? = some (hN w k) := by rw [List.getElem?_map, hp, ← hk]; rfl
  have hil : i < t.place.toList.length := by
    have z1 : i < L.length := (List.getElem?_eq_some_iff.mp hp).1
    have z2 := R.tab.sz
    rw [List.length_map] at z2
    rw [Array.length_toList]; omega
  have hj := List.getElem?_eq_getElem hil
  obtain ⟨c, hc, e⟩ := R.tab.before hK hi hj
  exact ⟨c, Nat.zero_le _, hc, by rw [hj, e]⟩
end
end U
end

section
set_option Elab.async false
set_option linter.all false
set_option maxRecDepth 100000
namespace U
open PySem PySem.Spec PyProof.Rows L2
section
variable {P : Program} {w : World} {A : Around} {E : Value → Shared → Prop} {s : Shared}
theorem isN_same {h h' : Heap} {k : NK} {a b : Addr} {o : Obj} {es : Array (Int × Value)} {ep : Nat} {t : SetTable} (hb : IsN h k b) (ho : h.get? a = some o) (hd : o.data = .set es ep t) (hs : Heap.SameBut a h h') : IsN h' k b :=
  ⟨NestedIs.at (fun c oc vs n hc hq => (hs.2 c fun e => by
    subst e
    rw [ho] at hc
    cases hc
    rw [hd] at hq
    cases hq).trans hc) k _ hb.1, hb.2⟩
theorem isN_keep {h h' : Heap} {k : NK} {b : Addr} (x : IsN h k b) (hk : ∀ c o, h.get? c = some o → h'.get? c = some o) : IsN h' k b := ⟨NestedIs.at (fun c o _ _ hc _ => hk c o hc) k _ x.1, x.2⟩
theorem order_N (L : List (Addr × NK)) (es : Array (Int × Value)) (order : Array Nat) (hr : es.toList = rowsN w L) (hp : order.toList.Perm (List.range L.length)) :
    ∃ M, (order.filterMap (es[·]?)).toList = rowsN w M ∧ M.Perm L ∧ (M.map fun p => hN w p.2) = order.toList.map fun i => (es.map (·.1)).getD i 0 := by
  have hsz := rowsN_len hr
  have ent : ∀ i (h : i < L.length), es[i]? = some (hN w (L[i]).2, Value.ref (L[i]).1) := fun i h => by
    rw [← Array.getElem?_toList, hr]
    unfold rowsN
    rw [List.getElem?_map, List.getElem?_eq_getElem h]; rfl
  have key : ∀ l : List Nat, (∀ i ∈ l, i < L.length) → l.filterMap (fun i => es[i]?) = rowsN w (l.filterMap fun i => L[i]?) ∧ ((l.filterMap fun i => L[i]?).map fun p => hN w p.2) = l.map fun i => (es.map (·.1)).getD i 0 := by
    intro l
    induction l with
    | nil => intro _; exact ⟨rfl, rfl⟩
    | cons i l ih =>
      intro hl
      have hi := hl i List.mem_cons_self
      obtain ⟨e1, e2⟩ := ih fun j hj => hl j (List.mem_cons_of_mem _ hj)
      have e5 : (es.map (·.1))[i]? = some (hN w (L[i]).2) := by rw [Array.getElem?_map, ent i hi]; rfl
      rw [List.filterMap_cons_some (ent i hi), List.filterMap_cons_some (List.getElem?_eq_getElem hi), e1, List.map_cons, List.map_cons, e2]
      exact ⟨rfl, by simp [Array.getD_eq_getD_getElem?, e5]⟩
  obtain ⟨e1, e3⟩ := key order.toList fun i hi => List.mem_range.mp (hp.mem_iff.mp hi)
  refine ⟨_, by first | (rw [Array.toList_filterMap]; exact e1) | simpa using e1, ?_, e3⟩
  have z : (List.range L.length).filterMap (fun i => L[i]?) = L := PySem.List.filterMap_getElem?_range_length L
  have q := hp.filterMap fun i => L[i]?
  rwa [z] at q
variable {a : Addr} {L : List (Addr × NK)} {es : Array (Int × Value)} {ep : Nat} {t : SetTable}
theorem relay_N {o : Obj} (ho : s.heap.get? a = some o) (hex : o.ExactSet) (hd : o.data = .set es ep t) (hrows : es.toList = rowsN w L) (T0 : TabOk t (L.map fun p => hN w p.2)) (hfl : L.length ≤ t.mask)
    (nd : (L.map (·.2)).Nodup) (kk : ∀ p ∈ L, IsN s.heap p.2 p.1) (ld : w.params.followText "set-order" = true ∨ t.led = true) (few : L.length < 64) {wanted M : Nat}
    (hw : SetTable.sizeAbove wanted - 1 = M) (hM : MaskOk M) (hw2 : SetTable.sizeAbove wanted ≤ 128) (hn : L.length * 5 < M * 3) {Q : Unit → Shared → Prop}
    (hQ : ∀ h' L' es' ep' t', Heap.SameBut a s.heap h' → SetN w h' a L' es' ep' t' → L'.Perm L → Q () { s with heap := h' }) : wpAny (model P w) A (setRelay a wanted) Q E s := by
  have hsl := rowsN_len hrows
  have hfits : t.fits es.size = true := fits_of T0 (by rw [List.length_map, hsl]) (by omega)
  obtain ⟨t', order, e, hp, T, em, el, _, ed⟩ := relaid_ok t (hs := es.map (·.1)) (wanted := wanted) hw hM (by rw [Array.size_map, hsl]; omega)
  rw [Array.size_map, hsl] at hp
  obtain ⟨L2, r1, r2, r3⟩ := order_N L es order hrows hp
  rw [← r3] at T
  have hs2 : (order.filterMap (es[·]?)).size = es.size := by rw [rowsN_len r1, r2.length_eq, hsl]
  rw [setRelay_eq]
  refine wpAny_bind (wpAny_setState_of ho hd hfits ?_)
  dsimp only
  refine wp_if_neg (by rw [sizeLine_eq]; omega) ?_
  try refine wpAny_bind (wpAny_pure ?_)
  rw [e]
  dsimp only
  refine wpAny_bind (wp_if_neg (by rw [hs2]; simp) ?_)
  try refine wpAny_bind (wpAny_pure ?_)
  refine wpAny_pure ?_
  dsimp only
  refine wpAny_storeSet_of ho hd ?_ (by rw [hs2, hsl, sizeLine_eq]; omega)
  have sb : Heap.SameBut a s.heap (s.heap.update a (Obj.putSet (order.filterMap (es[·]?)) t')) := Heap.SameBut.update ..
  exact hQ _ L2 _ (ep + 1) t' sb ⟨⟨_, store_at ho hd, ⟨hex.1, hex.2.1, hex.2.2⟩, rfl⟩, r1, T, (r2.map (·.2)).nodup_iff.mpr nd, fun p hpm => isN_same (kk p (r2.mem_iff.mp hpm)) ho hd sb, by rw [el]; exact ld, by rw [r2.length_eq, em]; exact hn, by rw [r2.length_eq]; exact few⟩ r2
theorem tab_plain {hs : List Int} {b : Bool} (T : TabOk t hs) : TabOk { t with plain := b } hs := ⟨T.ris, T.dm, T.sz, T.mok, T.bd, T.reach⟩
/-- what is left once the slot is found -/
theorem put_N {o : Obj} {x : Addr} {k : NK} (R : SetN w s.heap a L es ep t) (ho : s.heap.get? a = some o) (hex : o.ExactSet) (hd : o.data = .set es ep t) (hx : IsN s.heap k x) (hfew : L.length + 1 < 64) (hm : k ∉ L.map (·.2)) {t1 : SetTable} {p : Nat}
    (hin : (SetTable.insertAt es p (hN w k, Value.ref x)).toList = rowsN w (L.take p ++ (x, k) :: L.drop p)) (T : TabOk t1 ((L.take p ++ (x, k) :: L.drop p).map fun p => hN w p.2)) (em : t1.mask = t.mask) (el : t1.led = t.led) (ef : t1.fill = L.length + 1)
    {Q : Bool → Shared → Prop} (hQ : ∀ b h' L' es' ep' t', Heap.SameBut a s.heap h' → SetN w h' a L' es' ep' t' → L'.Perm ((x, k) :: L) → Q b { s with heap := h' }) :
    wpAny (model P w) A (do
      storeSet a (SetTable.insertAt es p (hN w k, Value.ref x)) t1
      if (!false && t1.tooFull) = true then setRelay a (SetTable.grown (es.size + 1))
      return true) Q E s := by
  have hsl := R.size
  have hroom := R.room
  have pm : (L.take p ++ (x, k) :: L.drop p).Perm ((x, k) :: L) := put_perm L p (x, k)
  have hlen : (L.take p ++ (x, k) :: L.drop p).length = L.length + 1 := pm.length_eq
  have nd1 : ((L.take p ++ (x, k) :: L.drop p).map (·.2)).Nodup := (pm.map (·.2)).nodup_iff.mpr (by rw [List.map_cons]; exact List.nodup_cons.mpr ⟨hm, R.nd⟩)
  have hes : (SetTable.insertAt es p (hN w k, Value.ref x)).size = L.length + 1 := by rw [rowsN_len hin, hlen]
  generalize SetTable.insertAt es p (hN w k, Value.ref x) = es1 at hin hes ⊢
  generalize L.take p ++ (x, k) :: L.drop p = L1 at pm hlen T nd1 hin
  refine wpAny_bind (wpAny_storeSet_of ho hd ?_ (by rw [hes, sizeLine_eq]; omega))
  have sb : Heap.SameBut a s.heap (s.heap.update a (Obj.putSet es1 t1)) := Heap.SameBut.update ..
  have ho1 := store_at (es' := es1) (t' := t1) ho hd
  generalize s.heap.update a (Obj.putSet es1 t1) = h1 at sb ho1 ⊢
  have key1 : ∀ p ∈ L1, IsN h1 p.2 p.1 := fun p hp => by
    rcases List.mem_cons.mp (pm.mem_iff.mp hp) with e | hp
    · rw [e]; exact isN_same hx ho hd sb
    · exact isN_same (R.key p hp) ho hd sb
  have ld1 : w.params.followText "set-order" = true ∨ t1.led = true := by rw [el]; exact R.led
  by_cases hf : t1.tooFull = true
  · have hfull : (L.length + 1) * 5 ≥ t1.mask * 3 := by
      have h := hf
      unfold SetTable.tooFull at h
      rwa [decide_eq_true_eq, ef] at h
    have two : (t.mask = 7 ∧ L.length = 4) ∨ (t.mask = 31 ∧ L.length = 18) := by
      rcases R.tab.mok with e | e | e
      · left; rw [em, e] at hfull; rw [e] at hroom; exact ⟨e, by omega⟩
      · right; rw [em, e] at hfull; rw [e] at hroom; exact ⟨e, by omega⟩
      · exfalso; rw [em, e] at hfull; omega
    have go : ∀ M, SetTable.sizeAbove (SetTable.grown (L.length + 1)) - 1 = M → MaskOk M → SetTable.sizeAbove (SetTable.grown (L.length + 1)) ≤ 128 → (L.length + 1) * 5 < M * 3 →
        wpAny (model P w) A (setRelay a (SetTable.grown (es.size + 1))) (fun _ s' => wpAny (model P w) A (pure true) Q E s') E { s with heap := h1 } := fun M z1 z2 z3 z4 => by
      rw [hsl]
      refine relay_N (s := { s with heap := h1 }) ho1 ⟨hex.1, hex.2.1, hex.2.2⟩ rfl hin T (by rw [hlen, em]; rcases two with ⟨e, e2⟩ | ⟨e, e2⟩ <;> omega) nd1 key1 ld1 (by rw [hlen]; exact hfew) z1 z2 z3 (by rw [hlen]; exact z4) ?_
      intro h2 L2 es2 ep2 t2 sb2 R2 pm2
      exact wpAny_pure (hQ true h2 L2 es2 ep2 t2 (sb.trans sb2) R2 (pm2.trans pm))
    have run : wpAny (model P w) A (setRelay a (SetTable.grown (es.size + 1))) (fun _ s' => wpAny (model P w) A (pure true) Q E s') E { s with heap := h1 } := by
      rcases two with ⟨_, e2⟩ | ⟨_, e2⟩
      · exact go 31 (by rw [e2, size_20]) (.inr (.inl rfl)) (by rw [e2, size_20]; decide) (by omega)
      · exact go 127 (by rw [e2, size_76]) (.inr (.inr rfl)) (by rw [e2, size_76]; decide) (by omega)
    first
      | exact wpAny_bind (wp_if_pos (by simp [hf]) run)
      | exact wp_if_pos (by simp [hf]) (wpAny_bind run)
  · have fin : Q true { s with heap := h1 } := hQ true h1 L1 es1 (ep + 1) t1 sb ⟨⟨_, ho1, ⟨hex.1, hex.2.1, hex.2.2⟩, rfl⟩, hin, T, nd1, key1, ld1, by
      have h := hf
      unfold SetTable.tooFull at h
      rw [decide_eq_true_eq, ef] at h
      rw [hlen]; omega, by rw [hlen]; exact hfew⟩ pm
    first
      | exact wp_if_neg (by simp [hf]) (wpAny_pure fin)
      | exact wpAny_bind (wp_if_neg (by simp [hf]) (wpAny_pure (wpAny_pure fin)))
/-- adding -/
theorem add_N (R : SetN w s.heap a L es ep t) {x : Addr} {k : NK} (hx : IsN s.heap k x) (hu : A.units + 8 < cLine) (hfew : k ∉ L.map (·.2) → L.length + 1 < 64) {Q : Bool → Shared → Prop}
    (hQ : ∀ b h' L' es' ep' t', Heap.SameBut a s.heap h' → SetN w h' a L' es' ep' t' → (k ∈ L.map (·.2) → L' = L) → (k ∉ L.map (·.2) → L'.Perm ((x, k) :: L)) → Q b { s with heap := h' }) :
    wpAny (model P w) A (setAddHashed a (.ref x) (hN w k)) Q E s := by
  obtain ⟨o, ho, hex, hd⟩ := R.ob
  unfold setAddHashed
  refine wpAny_holding ?_
  rw [show (100000 : Nat) = 99999 + 1 from rfl, setAddHashedIn_succ]
  refine wpAny_bind (wpAny_setState_of ho hd R.fits ?_)
  dsimp only
  refine wp_if_neg (by simp [byScan, Value.scannable]) ?_
  try refine wpAny_bind (wpAny_pure ?_)
  refine wpAny_bind (look_at R hx hu (fun hm => ?_) fun K hm hK hb => ?_)
  · dsimp only
    exact wpAny_pure (hQ false s.heap L es ep t (Heap.SameBut.refl a s.heap) R (fun _ => rfl) fun z => absurd hm z)
  · dsimp only
    refine wpAny_bind (wpAny_setState_of ho hd R.fits ?_)
    dsimp only
    obtain ⟨q1, q2, q3, q4, q5, q6, q7, q8, q9⟩ := R.tab.put hK hb
    generalize t.put (way t.mask (hN w k) K) = pt at q1 q3 q4 q5 q6 q7 q8 q9 ⊢
    obtain ⟨t1, p0⟩ := pt
    dsimp only at q1 q3 q4 q5 q6 q7 q8 q9 ⊢
    subst q1
    have hin : (SetTable.insertAt es (SetTable.below t.place (way t.mask (hN w k) K)) (hN w k, Value.ref x)).toList = rowsN w (L.take (SetTable.below t.place (way t.mask (hN w k) K)) ++ (x, k) :: L.drop (SetTable.below t.place (way t.mask (hN w k) K))) := by
      rw [SetTable.toList_insertAt, R.rows]
      unfold rowsN
      rw [List.map_append, List.map_cons, List.map_take, List.map_drop]
    generalize SetTable.below t.place (way t.mask (hN w k) K) = p at q2 q3 hin ⊢
    have hhs : (L.take p ++ (x, k) :: L.drop p).map (fun p => hN w p.2) = (L.map fun p => hN w p.2).take p ++ hN w k :: (L.map fun p => hN w p.2).drop p := by
      rw [List.map_append, List.map_cons, List.map_take, List.map_drop]
    rw [← hhs] at q3
    rw [List.length_map] at q9
    have go : ∀ b : Bool, wpAny (model P w) A (do
        storeSet a (SetTable.insertAt es p (hN w k, Value.ref x)) (if b = true then t1 else { t1 with plain := false })
        if (!false && (if b = true then t1 else { t1 with plain := false }).tooFull) = true then setRelay a (SetTable.grown (es.size + 1))
        return true) Q E s := fun b => by
      cases b with
      | true =>
        simp only [if_true]
        exact put_N R ho hex hd hx (hfew hm) hm hin q3 q4 q5 q9 fun b h' L' es' ep' t' sb R' pm => hQ b h' L' es' ep' t' sb R' (fun z => absurd z hm) fun _ => pm
      | false =>
        simp only [Bool.false_eq_true, if_false]
        exact put_N (t1 := { t1 with plain := false }) R ho hex hd hx (hfew hm) hm hin (tab_plain (b := false) q3) q4 q5 q9 fun b h' L' es' ep' t' sb R' pm => hQ b h' L' es' ep' t' sb R' (fun z => absurd z hm) fun _ => pm
    by_cases hp : t1.plain = true
    · first
        | (refine wpAny_bind ?_; refine wp_if_pos hp (hbv_key k _ 8 _ hx.1 fun b => ?_); exact go b)
        | exact wp_if_pos hp (wpAny_bind (hbv_key k _ 8 _ hx.1 fun b => go b))
    · first
        | (refine wpAny_bind ?_; refine wp_if_neg hp (wpAny_pure ?_); exact go true)
        | exact wp_if_neg hp (wpAny_bind (wpAny_pure (go true)))
end
end U
end

section
set_option Elab.async false
set_option linter.all false
set_option maxRecDepth 100000
namespace U
open PySem PySem.Spec PyProof.Rows L2
abbrev hK (P : Program) (w : World) (k : Key) : Int := (mixKind P w).hash k
/-- the set at a holds the keys L, carried by value -/
structure SetS (P : Program) (w : World) (h : Heap) (a : Addr) (L : List (Value × Key)) (es : Array (Int × Value)) (ep : Nat) (t : SetTable) : Prop where
  ob : ∃ o, h.get? a = some o ∧ o.ExactSet ∧ o.data = .set es ep t
  rows : es.toList = L.map fun p => (hK P w p.2, p.1)
  key : ∀ p ∈ L, (mixKind P w).is p.2 p.1 = true ∧ p.1.scannable = true
  nd : (L.map (·.2)).Nodup
  fits : t.fits es.size = true
  ris : Ris t.place.toList
  led : w.params.followText "set-order" = true ∨ t.led = true
  few : L.length < 64
section
variable {P : Program} {w : World} {A : Around} {E : Value → Shared → Prop} {s : Shared} {a : Addr} {L : List (Value × Key)} {es : Array (Int × Value)} {ep : Nat} {t : SetTable}
theorem rowsS_len {L : List (Value × Key)} {es : Array (Int × Value)} (h : es.toList = L.map fun p => (hK P w p.2, p.1)) : es.size = L.length := by
  have q := congrArg List.length h
  rwa [Array.length_toList, List.length_map] at q
theorem SetS.elems (R : SetS P w s.heap a L es ep t) : ElemsOf (mixKind P w) es.toList := fun e he => by
  rw [R.rows] at he
  obtain ⟨p, hp, rfl⟩ := List.mem_map.mp he
  exact ⟨⟨p.2, (R.key p hp).1, rfl⟩, (R.key p hp).2⟩
theorem perm_rows {L : List (Value × Key)} : ∀ {M : List (Int × Value)}, M.Perm (L.map fun p => (hK P w p.2, p.1)) → ∃ L' : List (Value × Key), M = L'.map (fun p => (hK P w p.2, p.1)) ∧ L'.Perm L := by
  intro M h
  generalize hl : L.map (fun p => (hK P w p.2, p.1)) = N at h
  induction h generalizing L with
  | nil =>
    have : L = [] := by simpa using hl
    exact ⟨[], rfl, by rw [this]⟩
  | @cons x l1 l2 _ ih =>
    cases L with
    | nil => cases hl
    | cons p L =>
      rw [List.map_cons] at hl
      injection hl with e1 e2
      obtain ⟨L', q1, q2⟩ := ih e2
      exact ⟨p :: L', by rw [List.map_cons, e1, q1], q2.cons p⟩
  | swap x y l =>
    match L, hl with
    | p :: q :: L, hl =>
      rw [List.map_cons, List.map_cons] at hl
      injection hl with e1 hl
      injection hl with e2 e3
      exact ⟨q :: p :: L, by rw [List.map_cons, List.map_cons, e1, e2, e3], .swap ..⟩
  | trans _ _ ih1 ih2 =>
    obtain ⟨L1, q1, q2⟩ := ih2 hl
    obtain ⟨L2, q3, q4⟩ := ih1 q1.symm
    exact ⟨L2, q3, q4.trans q2⟩
theorem tail_S {g : Bool → Sem Unit} (hg : ∀ (b : Bool) (s₁ : Shared) (Q' : Unit → Shared → Prop), Q' () s₁ → wpAny (model P w) A (g b) Q' E s₁) {o : Obj} (ho : s.heap.get? a = some o) (hex : o.ExactSet) (hd : o.data = .set es ep t)
    {es1 : Array (Int × Value)} {t2 : SetTable} {L1 : List (Value × Key)} (r1 : es1.toList = L1.map fun p => (hK P w p.2, p.1)) (k1 : ∀ p ∈ L1, (mixKind P w).is p.2 p.1 = true ∧ p.1.scannable = true) (nd1 : (L1.map (·.2)).Nodup)
    (few1 : L1.length < 64) (hf2 : t2.fits es1.size = true) (hr : Ris t2.place.toList) (hl : w.params.followText "set-order" = true ∨ t2.led = true) {wasDummy : Bool} {R : Option Bool → Shared → Prop}
    (hR : ∀ h' L' es' ep' t', Heap.SameBut a s.heap h' → SetS P w h' a L' es' ep' t' → L'.Perm L1 → R (some true) { s with heap := h' }) :
    wpAny (model P w) A (do
        storeSet a es1 t2
        if (!wasDummy && t2.tooFull) = true then do
            g (relayAll t2 es1 (SetTable.grown es1.size)).2.2
            storeSet a (relayAll t2 es1 (SetTable.grown es1.size)).1 (relayAll t2 es1 (SetTable.grown es1.size)).2.1
            pure (some true)
          else pure (some true)) R E s := by
  have hz := rowsS_len r1
  have hb1 : es1.size < scanBound := by rw [hz]; exact Nat.lt_trans few1 (by decide)
  refine wpAny_bind (wpAny_storeSet_of ho hd ?_ (fits_of_scanBound hb1))
  have ho1 := store_at (es' := es1) (t' := t2) ho hd
  have sb1 := Heap.SameBut.update s.heap a (Obj.putSet es1 t2)
  split
  · have pm := relayAll_perm t2 es1 (SetTable.grown es1.size)
    have hf3 := relayAll_fits t2 es1 (SetTable.grown es1.size)
    have hr3 := relayAll_ris t2 es1 (SetTable.grown es1.size)
    have hl3 := relayAll_led t2 es1 (SetTable.grown es1.size)
    generalize relayAll t2 es1 (SetTable.grown es1.size) = Z at pm hf3 hr3 hl3 ⊢
    obtain ⟨es2, t3, gave⟩ := Z
    dsimp only at pm hf3 hr3 hl3 ⊢
    rw [r1] at pm
    obtain ⟨L2, q1, q2⟩ := perm_rows pm
    have few2 : L2.length < 64 := by rw [q2.length_eq]; exact few1
    have hb2 : es2.size < scanBound := by rw [rowsS_len q1]; exact Nat.lt_trans few2 (by decide)
    refine wpAny_bind (hg _ _ _ (wpAny_bind (wpAny_storeSet_of ho1 rfl ?_ (fits_of_scanBound hb2))))
    have ho2 := store_at (es' := es2) (t' := t3) ho1 rfl
    exact wpAny_pure (hR _ L2 es2 _ t3 (sb1.trans (Heap.SameBut.update _ a _)) ⟨⟨_, ho2, hex, rfl⟩, q1, fun p hp => k1 p (q2.mem_iff.mp hp), (q2.map (·.2)).nodup_iff.mpr nd1, hf3, hr3, hl.imp id fun z => by rw [hl3]; exact z, few2⟩ q2)
  · exact wpAny_pure (hR _ L1 es1 _ t2 sb1 ⟨⟨_, ho1, hex, rfl⟩, r1, k1, nd1, hf2, hr, hl, few1⟩ (.refl _))
theorem add_S (R : SetS P w s.heap a L es ep t) {x : Value} {k : Key} (hx : (mixKind P w).is k x = true) (hsc : x.scannable = true) (hfew : k ∉ L.map (·.2) → L.length + 1 < 64) {Q : Bool → Shared → Prop}
    (hQ : ∀ b h' L' es' ep' t', Heap.SameBut a s.heap h' → SetS P w h' a L' es' ep' t' → (k ∈ L.map (·.2) → L' = L) → (k ∉ L.map (·.2) → L'.Perm ((x, k) :: L)) → Q b { s with heap := h' }) :
    wpAny (model P w) A (setAddHashed a x (hK P w k)) Q E s := by
  obtain ⟨o, ho, hex, hd⟩ := R.ob
  have hel := R.elems
  have hz := rowsS_len R.rows
  have hb : es.size < scanBound := by rw [hz]; exact Nat.lt_trans R.few (by decide)
  have mem_is : ∀ e ∈ es.toList, (mixKind P w).is k e.2 = true ↔ ∃ p ∈ L, p.2 = k ∧ e = (hK P w p.2, p.1) := fun e he => by
    rw [R.rows] at he
    obtain ⟨p, hp, rfl⟩ := List.mem_map.mp he
    have ip := (R.key p hp).1
    have dq : (mixKind P w).is k p.1 = decide (k = p.2) := KeyKind.is_eq_decide ip k
    constructor
    · intro q
      have q : (mixKind P w).is k p.1 = true := q
      rw [dq, decide_eq_true_eq] at q
      exact ⟨p, hp, q.symm, rfl⟩
    · rintro ⟨p', hp', e1, e2⟩
      have e3 : p.1 = p'.1 := congrArg Prod.snd e2
      show (mixKind P w).is k p.1 = true
      rw [e3, ← e1]
      exact (R.key p' hp').1
  unfold setAddHashed setAddHashedIn
  refine wpAny_holding (wpAny_bind (wpAny_setState_of ho hd R.fits ?_))
  dsimp only
  rw [byScan_of hsc hb hel]
  simp only [↓reduceIte]
  unfold setAddByScan
  refine wpAny_bind (wpAny_bind (wpAny_rule (wpAny_bind (wpAny_setScan_of hx ho hd R.fits hel ?_))))
  cases hfi : List.findIdx? (fun e => (mixKind P w).is k e.2) es.toList with
  | some j =>
    dsimp only
    obtain ⟨hj, pj, _⟩ := List.findIdx?_eq_some_iff_getElem.mp hfi
    obtain ⟨p, hp, e, _⟩ := (mem_is _ (List.getElem_mem hj)).1 pj
    have hin : k ∈ L.map (·.2) := List.mem_map.mpr ⟨p, hp, e⟩
    exact wpAny_pure (wpAny_pure (hQ false s.heap L es ep t (Heap.SameBut.refl a s.heap) R (fun _ => rfl) fun z => absurd hin z))
  | none =>
    dsimp only
    have hnk : k ∉ L.map (·.2) := fun z => by
      obtain ⟨p, hp, e⟩ := List.mem_map.mp z
      have he : (hK P w p.2, p.1) ∈ es.toList := by rw [R.rows]; exact List.mem_map.mpr ⟨p, hp, rfl⟩
      have c := List.findIdx?_eq_none_iff.mp hfi _ he
      rw [(mem_is _ he).2 ⟨p, hp, e, rfl⟩] at c
      cases c
    have hgw : ∀ (b : Bool) {s₁ : Shared} {Q' : Unit → Shared → Prop}, Q' () s₁ → wpAny (model P w) A (match b with | true => rule "set.scan.the-table-gave-way" | false => pure ()) Q' E s₁ := fun b s₁ Q' q => by cases b <;> first | exact wpAny_pure q | exact wpAny_rule q
    have pm := layNew_perm t es (hK P w k) x
    have hf1 := layNew_fits t es (hK P w k) x
    have hr1 := layNew_ris t es (hK P w k) x R.ris
    have hl1 := layNew_led t es (hK P w k) x
    generalize layNew t es (hK P w k) x = Z at pm hf1 hr1 hl1 ⊢
    obtain ⟨es1, t1, wasDummy, gave⟩ := Z
    dsimp only at pm hf1 hr1 hl1 ⊢
    rw [Array.toList_push, R.rows] at pm
    have pc : es1.toList.Perm (((x, k) :: L).map fun p => (hK P w p.2, p.1)) := pm.trans (List.perm_append_singleton _ _)
    obtain ⟨L1, r1, p1⟩ := perm_rows pc
    have k1 : ∀ p ∈ L1, (mixKind P w).is p.2 p.1 = true ∧ p.1.scannable = true := fun p hp => by
      rcases List.mem_cons.mp (p1.mem_iff.mp hp) with z | z
      · rw [z]; exact ⟨hx, hsc⟩
      · exact R.key p z
    have nd1 : (L1.map (·.2)).Nodup := (p1.map (·.2)).nodup_iff.mpr (by rw [List.map_cons]; exact List.nodup_cons.mpr ⟨hnk, R.nd⟩)
    have few1 : L1.length < 64 := by rw [p1.length_eq, List.length_cons]; exact hfew hnk
    have hled : w.params.followText "set-order" = true ∨ t1.led = true := R.led.imp id fun z => by rw [hl1]; exact z
    have fin : ∀ h' L' es' ep' t', Heap.SameBut a s.heap h' → SetS P w h' a L' es' ep' t' → L'.Perm L1 → Q true { s with heap := h' } := fun h' L' es' ep' t' sb R' q => hQ true h' L' es' ep' t' sb R' (fun z => absurd z hnk) fun _ => q.trans p1
    refine wpAny_bind (hgw _ ?_)
    split
    · refine wpAny_bind ?_
      rw [hashByValue_scannable 8 hsc]
      refine wpAny_pure (tail_S ?_ ho hex hd r1 k1 nd1 few1 ?_ ?_ ?_ ?_)
      · intro b s₁ Q' q; cases b <;> first | exact wpAny_pure q | exact wpAny_rule q
      · first | (split <;> first | exact hf1 | exact SetTable.fits_plain_off hf1) | exact hf1
      · first | (split <;> exact hr1) | exact hr1
      · first | (split <;> exact hled) | exact hled
      · intro h' L' es' ep' t' sb r q; dsimp only; exact wpAny_pure (fin h' L' es' ep' t' sb r q)
    · refine wpAny_bind (wpAny_pure ?_)
      simp only [↓reduceIte]
      refine tail_S ?_ ho hex hd r1 k1 nd1 few1 hf1 hr1 hled ?_
      · intro b s₁ Q' q; cases b <;> first | exact wpAny_pure q | exact wpAny_rule q
      · intro h' L' es' ep' t' sb r q; dsimp only; exact wpAny_pure (fin h' L' es' ep' t' sb r q)
end
end U
end

section
set_option Elab.async false
set_option linter.all false
set_option maxRecDepth 100000
namespace U
open PySem PySem.Spec PyProof.Rows L2
/-- a new set -/
abbrev fset (w : World) : Obj := { cls := .type "set", dict := none, data := .set #[] 0 (.fresh 0 0 (!w.params.followText "set-order")) }
/-- how a set of such keys is kept -/
structure Road (P : Program) (w : World) (κ : Type) where
  Rel : Heap → Addr → List (Value × κ) → Prop
  Is : Heap → κ → Value → Prop
  isKeep : ∀ {h h' : Heap} {k : κ} {v : Value}, Is h k v → (∀ c o, h.get? c = some o → h'.get? c = some o) → Is h' k v
  fresh : ∀ {h : Heap} {a : Addr}, h.get? a = some (fset w) → Rel h a []
  keep : ∀ {h h' : Heap} {a : Addr} {L : List (Value × κ)}, Rel h a L → (∀ o, h.get? a = some o → h'.get? a = some o) → (∀ p ∈ L, Is h' p.2 p.1) → Rel h' a L
  nd : ∀ {h : Heap} {a : Addr} {L : List (Value × κ)}, Rel h a L → (L.map (·.2)).Nodup
  add : ∀ {A : Around} {E : Value → Shared → Prop} {s : Shared} {a : Addr} {L : List (Value × κ)} {x : Value} {k : κ} {Q : Bool → Shared → Prop}, Rel s.heap a L → Is s.heap k x → A.units + 20 < cLine → (k ∉ L.map (·.2) → L.length + 1 < 64) →
    (∀ b h' tk L', s.toks ≤ tk → Heap.SameBut a s.heap h' → Rel h' a L' → (k ∈ L.map (·.2) → L' = L) → (k ∉ L.map (·.2) → L'.Perm ((x, k) :: L)) → Q b { s with heap := h', toks := tk }) → wpAny (model P w) A (setAdd a x) Q E s
  out : ∀ {h : Heap} {a : Addr} {L : List (Value × κ)}, Rel h a L → ∃ es ep t, SetAt h a es ep t ∧ t.fits es.size = true ∧ es.size < scanBound ∧ Ris t.place.toList ∧ (w.params.followText "set-order" = true ∨ t.led = true) ∧ es.toList.map (·.2) = L.map (·.1)
section
variable {P : Program} {w : World} {A : Around} {E : Value → Shared → Prop} {s : Shared} {κ : Type}
/-- what stands in the set of the first i -/
structure Kept (ks : List (Value × κ)) (i : Nat) (L : List (Value × κ)) : Prop where
  sub : ∀ p ∈ L, p ∈ ks.take i
  all : ∀ p ∈ ks.take i, p.2 ∈ L.map (·.2)
theorem Kept.zero (ks : List (Value × κ)) : Kept ks 0 [] := ⟨fun p h => (by cases h), fun p h => (by simp at h)⟩
theorem Kept.step {ks L L' : List (Value × κ)} {i : Nat} {x : Value × κ} (g : Kept ks i L) (h : ks[i]? = some x) (h1 : x.2 ∈ L.map (·.2) → L' = L) (h2 : x.2 ∉ L.map (·.2) → L'.Perm (x :: L)) : Kept ks (i + 1) L' := by
  have e := take_next h
  by_cases c : x.2 ∈ L.map (·.2)
  · rw [h1 c]
    refine ⟨fun p hp => by rw [e]; exact List.mem_append_left _ (g.sub p hp), fun p hp => ?_⟩
    rw [e] at hp
    rcases List.mem_append.mp hp with z | z
    · exact g.all p z
    · rw [List.mem_singleton.mp z]; exact c
  · have pm := h2 c
    refine ⟨fun p hp => ?_, fun p hp => ?_⟩
    · rw [e]
      rcases List.mem_cons.mp (pm.mem_iff.mp hp) with q | z
      · rw [q]; exact List.mem_append_right _ (List.mem_singleton.mpr rfl)
      · exact List.mem_append_left _ (g.sub p z)
    · rw [(pm.map (·.2)).mem_iff, List.map_cons]
      rw [e] at hp
      rcases List.mem_append.mp hp with z | z
      · exact List.mem_cons_of_mem _ (g.all p z)
      · rw [List.mem_singleton.mp z]; exact List.mem_cons_self
/-- few unlike keys -/
def FewK (ks : List (Value × κ)) : Prop := ∀ l : List κ, l.Nodup → (∀ x ∈ l, x ∈ ks.map (·.2)) → l.length < 64
theorem upd_loop (rd : Road P w κ) {I : Addr} {fp wr : List Addr} {G : Array GenState → Array GenState → Prop} {n : Nat} {Pv : Nat → Value → Prop} {St : Nat → Shared → Prop} {R : Result → Shared → Prop}
    (W : WalksS P w A.in1 I fp wr G n Pv St) (S : Addr) (hSf : S ∉ fp) (ks : List (Value × κ)) (hn : n = ks.length) (hfew : FewK ks) (hval : ∀ i v, Pv i v → ∃ p, ks[i]? = some p ∧ v = p.1)
    (h0 : Heap) (hk : ∀ p ∈ ks, rd.Is h0 p.2 p.1) (hS0 : h0.get? S = none) (hw0 : ∀ b ∈ wr, h0.get? b = none) (hu : A.in1.units + 20 < cLine) :
    ∀ (k i : Nat) (s : Shared), n - i = k → i ≤ n → St i s → (∀ b o, h0.get? b = some o → s.heap.get? b = some o) → (∃ L, rd.Rel s.heap S L ∧ Kept ks i L) →
      (∀ s' L, Moved (S :: wr) G s s' → rd.Rel s'.heap S L → Kept ks n L → (∀ b o, h0.get? b = some o → s'.heap.get? b = some o) → R (.ok (.ret .none)) s') →
      codeAny (model P w) A (.builtin "set.update.loop" ⟨[.ref S, .ref I], []⟩) R s := by
  have hSw : S ∉ wr := fun h => hSf (W.sub _ h)
  have hsub : ∀ b ∈ wr, b ∈ S :: wr := fun b hb => List.mem_cons_of_mem _ hb
  have keepM : ∀ {s s' : Shared}, Moved wr G s s' → (∀ b o, h0.get? b = some o → s.heap.get? b = some o) → ∀ b o, h0.get? b = some o → s'.heap.get? b = some o := fun hm hkp b o e => hm.heap b o (fun hb => by rw [hw0 b hb] at e; cases e) (hkp b o e)
  intro k
  induction k with
  | zero =>
    intro i s hk' hi hst hkp ⟨L, hS, g⟩ hR
    have hin : i = n := by omega
    subst hin
    refine codeAny_builtin F.entry_set_update_loop ?_
    rw [Around.under_plainId F.plain_set_update_loop _]
    show wpAny _ A.in1 (pyNext (.ref I) >>= _) _ _ s
    refine wpAny_bind (W.done s _ _ hst fun s' hm => ?_)
    show wpAny _ A.in1 (ret Value.none) _ _ s'
    have hkp' := keepM hm hkp
    exact wpAny_pure (hR s' L (hm.mono hsub) (rd.keep hS (fun o e => hm.heap S o hSw e) fun p hp => rd.isKeep (hk p (List.mem_of_mem_take (g.sub p hp))) hkp') g hkp')
  | succ k ih =>
    intro i s hk' hi hst hkp ⟨L, hS, g⟩ hR
    have hlt : i < n := by omega
    refine codeAny_builtin F.entry_set_update_loop ?_
    rw [Around.under_plainId F.plain_set_update_loop _]
    show wpAny _ A.in1 (pyNext (.ref I) >>= _) _ _ s
    refine wpAny_bind (W.item i s _ _ hlt hst fun v s' hP hst' hm => ?_)
    obtain ⟨p, hp, rfl⟩ := hval i v hP
    have hkp' := keepM hm hkp
    have hS' : rd.Rel s'.heap S L := rd.keep hS (fun o e => hm.heap S o hSw e) fun q hq => rd.isKeep (hk q (List.mem_of_mem_take (g.sub q hq))) hkp'
    have hx : rd.Is s'.heap p.2 p.1 := rd.isKeep (hk p (List.mem_of_getElem? hp)) hkp'
    have room : p.2 ∉ L.map (·.2) → L.length + 1 < 64 := fun c => by
      have q := hfew (p.2 :: L.map (·.2)) (List.nodup_cons.mpr ⟨c, rd.nd hS'⟩) fun x hx => by
        rcases List.mem_cons.mp hx with rfl | hx
        · exact List.mem_map.mpr ⟨p, List.mem_of_getElem? hp, rfl⟩
        · obtain ⟨r, hr, rfl⟩ := List.mem_map.mp hx
          exact List.mem_map.mpr ⟨r, List.mem_of_mem_take (g.sub r hr), rfl⟩
      simpa using q
    show wpAny _ A.in1 (holding [p.1] (setAdd S p.1) >>= _) _ _ s'
    refine wpAny_bind (wpAny_holding (rd.add hS' hx hu room fun b h' tk L' htk hsb hS2 c1 c2 => ?_))
    have hkp2 : ∀ b o, h0.get? b = some o → h'.get? b = some o := fun b o e => (hsb.2 b (fun z => by rw [z, hS0] at e; cases e)).trans (hkp' b o e)
    refine wpAny_pure ⟨plainId_quiet F.plain_set_update_loop _, ih (i + 1) _ (by omega) hlt (W.frame _ s' _ _ hst' htk fun b hb o e => ?_) hkp2 ⟨L', hS2, g.step hp c1 c2⟩ fun s'' L2 hm'' hS'' g'' hkp'' => ?_⟩
    · rw [hsb.2 b (fun h : b = S => hSf (by rw [← h]; exact hb))]; exact e
    · refine hR s'' L2 (Moved.trans W.gtrans ((hm.mono hsub).then_heap htk fun b o hb e => ?_) hm'') hS'' g'' hkp''
      rw [hsb.2 b (fun h : b = S => hb (by rw [h]; exact List.mem_cons_self))]; exact e
set_option maxHeartbeats 3200000 in
/-- set(x), x a list -/
theorem call_set_list (rd : Road P w κ) {l : Addr} {items : Array Value} (ks : List (Value × κ)) {Q : Value → Shared → Prop} (hh : A.handled = none) (hl : s.heap.IsList l items) (hit : items.toList = ks.map (·.1))
    (hk : ∀ p ∈ ks, rd.Is s.heap p.2 p.1) (hfew : FewK ks) (hu : A.units + 24 < cLine)
    (h : ∀ (h' : Heap) (tk : Nat) L, rd.Rel h' s.heap.objs.size L → Kept ks ks.length L → (∀ b o, s.heap.get? b = some o → h'.get? b = some o) → Q (.ref s.heap.objs.size) { s with heap := h', toks := tk }) :
    wpAny (model P w) A (call (.type "set") [.ref l]) Q E s := by
  have hisz : items.size = ks.length := by rw [← Array.length_toList, hit, List.length_map]
  obtain ⟨c, tl, hmro⟩ := F.called_set.mro
  have f1 := F.called_set.made
  have f2 := F.called_set.sub
  refine wpAny_call (codeAny_of_tree ?_)
  show wpAny _ _ (callAny (.type "set") _) _ _ _
  refine wpAny_pure ⟨Code.quiet_builtin _ (by decide +kernel), codeAny_builtin F.entry_type_call ?_⟩
  rw [Around.under_plain (weight_type_call_type "set" [.ref l] []) rfl]
  have f3 := F.called_set.notType
  have f4 := F.called_set.canCreate
  have f5 := F.typeCall_set_1 (.ref l)
  repeat (any_goals (first | assumption | wp_step))
  refine codeAny_mono (code_set_led1 (.ref l) (E := E) (Q₁ := fun obj s₁ => obj = .ref s.heap.objs.size ∧ s₁ = { s with heap := s.heap.push (fset w) }) ⟨rfl, rfl⟩) fun r s₁ hr => ?_
  cases r with
  | error e => exact hr
  | ok fl =>
    cases fl with
    | ret obj =>
      obtain ⟨rfl, rfl⟩ := hr
      have hS : (s.heap.push (fset w)).get? s.heap.objs.size = some (fset w) := Heap.get?_push_size _ rfl
      have hT : Shared.TypeIs { s with heap := s.heap.push (fset w) } (.ref s.heap.objs.size) "set" := ⟨_, hS, rfl⟩
      have f6 := F.called_set.init.lookup
      have f7 := F.called_set.init.bind (.ref s.heap.objs.size)
      repeat (any_goals (first | assumption | wp_step))
      refine codeAny_mono (codeAny_call_builtin (R := wants (fun r s₂ => r = .none ∧ ∃ h' tk L, s₂ = { s with heap := h', toks := tk } ∧ rd.Rel h' s.heap.objs.size L ∧ Kept ks ks.length L ∧ (∀ b o, s.heap.get? b = some o → h'.get? b = some o)) E) F.called_set.init.plain F.entry_set_init (check_set_init_1 hT ?_)) fun r₂ s₂ hr₂ => ?_
      · obtain ⟨ol, hol, hcl, nl, hdl⟩ := hl
        obtain ⟨ocls, odict, odata, oslots⟩ := ol
        simp only at hcl hdl
        subst hcl; subst hdl
        have hol' : (s.heap.push (fset w)).get? l = some { cls := .type "list", dict := odict, data := .seq items nl, slots := oslots } := Heap.get?_push_of_some _ hol
        have f8 := F.sub_list_set
        have f9 := F.sub_list_frozenset
        have hne : (Value.type "list" == Value.type "dict") = false := by decide
        have hl1 : (s.heap.push (fset w)).IsList l items := ⟨_, hol', rfl, nl, rfl⟩
        unfold Builtin.«set.__init__» noKeywords Builtin.Frozenset.updateFrom
        generalize hPI : pyIter = PI
        wp_walk
        subst hPI
        refine wpAny_pyIter_list hl1 (wpAny_bind (wpAny_runValue ?_))
        have hlS : l < s.heap.objs.size := Heap.lt_size hol
        have hh3 : A.in1.in1.in1.handled = none := by simp [hh]
        have hneI : l ≠ (s.heap.push (fset w)).objs.size := by rw [Heap.size_push]; exact Nat.ne_of_lt (Nat.lt_succ_of_lt hlS)
        have hSf : s.heap.objs.size ∉ [(s.heap.push (fset w)).objs.size, l] := by
          rw [Heap.size_push]
          simp only [List.mem_cons, List.mem_singleton, List.not_mem_nil, or_false, not_or]
          exact ⟨Nat.ne_of_lt (Nat.lt_succ_self _), Nat.ne_of_gt hlS⟩
        have hval : ∀ (i : Nat) (v : Value), items[i]? = some v → ∃ p, ks[i]? = some p ∧ v = p.1 := fun i v hv => by
          have q : items.toList[i]? = some v := by rw [Array.getElem?_toList]; exact hv
          rw [hit, List.getElem?_map] at q
          obtain ⟨p, e1, e2⟩ := map_some q
          exact ⟨p, e1, e2.symm⟩
        have none_of : ∀ b, s.heap.objs.size ≤ b → s.heap.get? b = none := fun b hb => by
          cases q : s.heap.get? b with
          | none => rfl
          | some o => exact absurd (Nat.lt_of_lt_of_le (Heap.lt_size q) hb) (Nat.lt_irrefl _)
        refine upd_loop rd ((Walks.list hh3 _ l hneI items).toS) s.heap.objs.size hSf ks hisz hfew hval s.heap hk (none_of _ (Nat.le_refl _)) (fun b hb => none_of b (by rw [List.mem_singleton.mp hb, Heap.size_push]; exact Nat.le_succ _))
          (by show A.units + 1 + 1 + 1 + 20 < cLine; omega) (items.size - 0) 0 _ (by omega) (Nat.zero_le _) ⟨⟨_, Heap.get?_push_size _ rfl, rfl, rfl⟩, (hl1.push _)⟩ (fun b o e => Heap.get?_push_of_some _ (Heap.get?_push_of_some _ e)) ?hS0 ?hR
        case hS0 => exact ⟨[], rd.fresh (Heap.get?_push_of_some _ hS), Kept.zero ks⟩
        case hR =>
          intro s' L hm hS' g' hkp
          obtain ⟨h', g2, d', tk', os'⟩ := s'
          have eg : g2 = s.gens := hm.gens
          have ed : d' = s.drawn := hm.drawn
          have eo : os' = s.os := hm.os
          subst eg; subst ed; subst eo
          show wpAny _ _ _ _ _ _
          refine wpAny_pure ?_
          show wpAny _ _ (ret Value.none) _ _ _
          rw [hisz] at g'
          exact wpAny_pure ⟨rfl, h', tk', L, rfl, hS', g', hkp⟩
      · cases r₂ with
        | error e => exact hr₂
        | ok fl₂ =>
          cases fl₂ with
          | ret r =>
            obtain ⟨rfl, h', tk, L, rfl, hS', g', hk'⟩ := hr₂
            repeat (any_goals (first | assumption | wp_step))
            exact h _ _ _ hS' g' hk'
          | _ => exact hr₂.elim
    | _ => exact hr.elim
set_option maxHeartbeats 3200000 in
/-- set(x), x a tuple -/
theorem call_set_tuple (rd : Road P w κ) {l : Addr} {items : Array Value} (ks : List (Value × κ)) {Q : Value → Shared → Prop} (hh : A.handled = none) (hl : s.heap.IsTuple l items) (hit : items.toList = ks.map (·.1))
    (hk : ∀ p ∈ ks, rd.Is s.heap p.2 p.1) (hfew : FewK ks) (hu : A.units + 24 < cLine)
    (h : ∀ (h' : Heap) (tk : Nat) L, rd.Rel h' s.heap.objs.size L → Kept ks ks.length L → (∀ b o, s.heap.get? b = some o → h'.get? b = some o) → Q (.ref s.heap.objs.size) { s with heap := h', toks := tk }) :
    wpAny (model P w) A (call (.type "set") [.ref l]) Q E s := by
  have hisz : items.size = ks.length := by rw [← Array.length_toList, hit, List.length_map]
  obtain ⟨c, tl, hmro⟩ := F.called_set.mro
  have f1 := F.called_set.made
  have f2 := F.called_set.sub
  refine wpAny_call (codeAny_of_tree ?_)
  show wpAny _ _ (callAny (.type "set") _) _ _ _
  refine wpAny_pure ⟨Code.quiet_builtin _ (by decide +kernel), codeAny_builtin F.entry_type_call ?_⟩
  rw [Around.under_plain (weight_type_call_type "set" [.ref l] []) rfl]
  have f3 := F.called_set.notType
  have f4 := F.called_set.canCreate
  have f5 := F.typeCall_set_1 (.ref l)
  repeat (any_goals (first | assumption | wp_step))
  refine codeAny_mono (code_set_led1 (.ref l) (E := E) (Q₁ := fun obj s₁ => obj = .ref s.heap.objs.size ∧ s₁ = { s with heap := s.heap.push (fset w) }) ⟨rfl, rfl⟩) fun r s₁ hr => ?_
  cases r with
  | error e => exact hr
  | ok fl =>
    cases fl with
    | ret obj =>
      obtain ⟨rfl, rfl⟩ := hr
      have hS : (s.heap.push (fset w)).get? s.heap.objs.size = some (fset w) := Heap.get?_push_size _ rfl
      have hT : Shared.TypeIs { s with heap := s.heap.push (fset w) } (.ref s.heap.objs.size) "set" := ⟨_, hS, rfl⟩
      have f6 := F.called_set.init.lookup
      have f7 := F.called_set.init.bind (.ref s.heap.objs.size)
      repeat (any_goals (first | assumption | wp_step))
      refine codeAny_mono (codeAny_call_builtin (R := wants (fun r s₂ => r = .none ∧ ∃ h' tk L, s₂ = { s with heap := h', toks := tk } ∧ rd.Rel h' s.heap.objs.size L ∧ Kept ks ks.length L ∧ (∀ b o, s.heap.get? b = some o → h'.get? b = some o)) E) F.called_set.init.plain F.entry_set_init (check_set_init_1 hT ?_)) fun r₂ s₂ hr₂ => ?_
      · obtain ⟨ol, hol, hcl, nl, hdl⟩ := hl
        obtain ⟨ocls, odict, odata, oslots⟩ := ol
        simp only at hcl hdl
        subst hcl; subst hdl
        have hol' : (s.heap.push (fset w)).get? l = some { cls := .type "tuple", dict := odict, data := .seq items nl, slots := oslots } := Heap.get?_push_of_some _ hol
        have f8 := F.sub_tuple_set
        have f9 := F.sub_tuple_frozenset
        have hne : (Value.type "tuple" == Value.type "dict") = false := by decide
        have hl1 : (s.heap.push (fset w)).IsTuple l items := ⟨_, hol', rfl, nl, rfl⟩
        unfold Builtin.«set.__init__» noKeywords Builtin.Frozenset.updateFrom
        generalize hPI : pyIter = PI
        wp_walk
        subst hPI
        refine wpAny_pyIter_tuple hl1 (wpAny_bind (wpAny_runValue ?_))
        have hlS : l < s.heap.objs.size := Heap.lt_size hol
        have hh3 : A.in1.in1.in1.handled = none := by simp [hh]
        have hneI : l ≠ (s.heap.push (fset w)).objs.size := by rw [Heap.size_push]; exact Nat.ne_of_lt (Nat.lt_succ_of_lt hlS)
        have hSf : s.heap.objs.size ∉ [(s.heap.push (fset w)).objs.size, l] := by
          rw [Heap.size_push]
          simp only [List.mem_cons, List.mem_singleton, List.not_mem_nil, or_false, not_or]
          exact ⟨Nat.ne_of_lt (Nat.lt_succ_self _), Nat.ne_of_gt hlS⟩
        have hval : ∀ (i : Nat) (v : Value), items[i]? = some v → ∃ p, ks[i]? = some p ∧ v = p.1 := fun i v hv => by
          have q : items.toList[i]? = some v := by rw [Array.getElem?_toList]; exact hv
          rw [hit, List.getElem?_map] at q
          obtain ⟨p, e1, e2⟩ := map_some q
          exact ⟨p, e1, e2.symm⟩
        have none_of : ∀ b, s.heap.objs.size ≤ b → s.heap.get? b = none := fun b hb => by
          cases q : s.heap.get? b with
          | none => rfl
          | some o => exact absurd (Nat.lt_of_lt_of_le (Heap.lt_size q) hb) (Nat.lt_irrefl _)
        refine upd_loop rd ((Walks.tuple hh3 _ l hneI items).toS) s.heap.objs.size hSf ks hisz hfew hval s.heap hk (none_of _ (Nat.le_refl _)) (fun b hb => none_of b (by rw [List.mem_singleton.mp hb, Heap.size_push]; exact Nat.le_succ _))
          (by show A.units + 1 + 1 + 1 + 20 < cLine; omega) (items.size - 0) 0 _ (by omega) (Nat.zero_le _) ⟨⟨_, Heap.get?_push_size _ rfl, rfl, rfl⟩, (hl1.push _)⟩ (fun b o e => Heap.get?_push_of_some _ (Heap.get?_push_of_some _ e)) ?hS0 ?hR
        case hS0 => exact ⟨[], rd.fresh (Heap.get?_push_of_some _ hS), Kept.zero ks⟩
        case hR =>
          intro s' L hm hS' g' hkp
          obtain ⟨h', g2, d', tk', os'⟩ := s'
          have eg : g2 = s.gens := hm.gens
          have ed : d' = s.drawn := hm.drawn
          have eo : os' = s.os := hm.os
          subst eg; subst ed; subst eo
          show wpAny _ _ _ _ _ _
          refine wpAny_pure ?_
          show wpAny _ _ (ret Value.none) _ _ _
          rw [hisz] at g'
          exact wpAny_pure ⟨rfl, h', tk', L, rfl, hS', g', hkp⟩
      · cases r₂ with
        | error e => exact hr₂
        | ok fl₂ =>
          cases fl₂ with
          | ret r =>
            obtain ⟨rfl, h', tk, L, rfl, hS', g', hk'⟩ := hr₂
            repeat (any_goals (first | assumption | wp_step))
            exact h _ _ _ hS' g' hk'
          | _ => exact hr₂.elim
    | _ => exact hr.elim
end
end U
end

section
set_option Elab.async false
set_option linter.all false
set_option maxRecDepth 100000
namespace U
open PySem PySem.Spec PyProof.Rows L2
section
variable {P : Program} {w : World}
theorem setN_fresh {h : Heap} {a : Addr} (ho : h.get? a = some (fset w)) : SetN w h a [] #[] 0 (.fresh 0 0 (!w.params.followText "set-order")) where
  ob := ⟨_, ho, ⟨rfl, rfl, rfl⟩, rfl⟩
  rows := rfl
  tab := ⟨List.Pairwise.nil, rfl, rfl, .inl rfl, fun x hx => (by cases hx), fun i h j hi => (by simp at hi)⟩
  nd := List.nodup_nil
  key := fun p hp => (by cases hp)
  led := by
    show _ ∨ (!w.params.followText "set-order") = true
    cases w.params.followText "set-order"
    · exact .inr rfl
    · exact .inl rfl
  room := by show 0 * 5 < 7 * 3; decide
  few := by show 0 < 64; decide
theorem setS_fresh {h : Heap} {a : Addr} (ho : h.get? a = some (fset w)) : SetS P w h a [] #[] 0 (.fresh 0 0 (!w.params.followText "set-order")) where
  ob := ⟨_, ho, ⟨rfl, rfl, rfl⟩, rfl⟩
  rows := rfl
  nd := List.nodup_nil
  key := fun p hp => (by cases hp)
  fits := rfl
  ris := List.Pairwise.nil
  led := by
    show _ ∨ (!w.params.followText "set-order") = true
    cases w.params.followText "set-order"
    · exact .inr rfl
    · exact .inl rfl
  few := by show 0 < 64; decide
/-- nested tuples -/
def roadT (P : Program) (w : World) : Road P w NK where
  Rel := fun h a L => ∃ (L0 : List (Addr × NK)) (es : Array (Int × Value)) (ep : Nat) (t : SetTable), L = L0.map (fun p => (Value.ref p.1, p.2)) ∧ SetN w h a L0 es ep t
  Is := fun h k v => ∃ b, v = .ref b ∧ IsN h k b
  isKeep := fun ⟨b, e, x⟩ hk => ⟨b, e, isN_keep x hk⟩
  fresh := fun ho => ⟨[], #[], 0, _, rfl, setN_fresh ho⟩
  keep := by
    rintro h h' a L ⟨L0, es, ep, t, rfl, R⟩ ha hk
    obtain ⟨o, ho, r⟩ := R.ob
    refine ⟨L0, es, ep, t, rfl, ⟨o, ha o ho, r⟩, R.rows, R.tab, R.nd, fun p hp => ?_, R.led, R.room, R.few⟩
    obtain ⟨b, e, x⟩ := hk (.ref p.1, p.2) (List.mem_map.mpr ⟨p, hp, rfl⟩)
    cases e
    exact x
  nd := by
    rintro h a L ⟨L0, es, ep, t, rfl, R⟩
    rw [List.map_map]
    exact R.nd
  add := by
    rintro A E s a L x k Q ⟨L0, es, ep, t, rfl, R⟩ ⟨b, rfl, hx⟩ hu hf hQ
    have em : (L0.map (fun p => (Value.ref p.1, p.2))).map (·.2) = L0.map (·.2) := by rw [List.map_map]; rfl
    rw [em, List.length_map] at hf
    unfold setAdd
    refine wpAny_holding (wpAny_bind (pyHash_key k _ A s _ hx.1 (by have := hx.2; omega) ?_))
    refine add_N (s := { s with toks := s.toks + k.draws }) R hx (by omega) hf fun b' h' L' es' ep' t' sb R' c1 c2 => ?_
    refine hQ b' h' _ (L'.map fun p => (Value.ref p.1, p.2)) (Nat.le_add_right _ _) sb ⟨L', es', ep', t', rfl, R'⟩ (fun c => ?_) fun c => ?_
    · rw [em] at c
      rw [c1 c]
    · rw [em] at c
      exact (c2 c).map fun p => (Value.ref p.1, p.2)
  out := by
    rintro h a L ⟨L0, es, ep, t, rfl, R⟩
    obtain ⟨o, ho, hex, hd⟩ := R.ob
    have hz := rowsN_len R.rows
    have hr := R.room
    refine ⟨es, ep, t, ⟨o, ho, hex.1, hd⟩, fits_of R.tab (by rw [List.length_map, hz]) (by omega), by rw [hz]; exact Nat.lt_trans R.few (by decide), R.tab.ris, R.led, ?_⟩
    rw [R.rows]
    unfold rowsN
    rw [List.map_map, List.map_map]; rfl
/-- ints and texts -/
def roadS (P : Program) (w : World) : Road P w Key where
  Rel := fun h a L => ∃ (es : Array (Int × Value)) (ep : Nat) (t : SetTable), SetS P w h a L es ep t
  Is := fun _ k v => (mixKind P w).is k v = true ∧ v.scannable = true
  isKeep := fun x _ => x
  fresh := fun ho => ⟨#[], 0, _, setS_fresh ho⟩
  keep := by
    rintro h h' a L ⟨es, ep, t, R⟩ ha hk
    obtain ⟨o, ho, r⟩ := R.ob
    exact ⟨es, ep, t, ⟨o, ha o ho, r⟩, R.rows, R.key, R.nd, R.fits, R.ris, R.led, R.few⟩
  nd := by
    rintro h a L ⟨es, ep, t, R⟩
    exact R.nd
  add := by
    rintro A E s a L x k Q ⟨es, ep, t, R⟩ ⟨hx, hsc⟩ hu hf hQ
    unfold setAdd
    refine wpAny_holding (wpAny_bind ((mixKind P w).pyHash hx ?_))
    refine add_S (s := { s with toks := s.toks + 1 }) R hx hsc hf fun b' h' L' es' ep' t' sb R' c1 c2 => ?_
    exact hQ b' h' _ L' (Nat.le_add_right _ _) sb ⟨es', ep', t', R'⟩ c1 c2
  out := by
    rintro h a L ⟨es, ep, t, R⟩
    obtain ⟨o, ho, hex, hd⟩ := R.ob
    refine ⟨es, ep, t, ⟨o, ho, hex.1, hd⟩, R.fits, by rw [rowsS_len R.rows]; exact Nat.lt_trans R.few (by decide), R.ris, R.led, ?_⟩
    rw [R.rows, List.map_map]; rfl
end
theorem perm_inv {α β : Type} {f : α → β} : ∀ {M : List β} {L : List α}, M.Perm (L.map f) → ∃ L' : List α, M = L'.map f ∧ L'.Perm L := by
  intro M L h
  generalize hl : L.map f = N at h
  induction h generalizing L with
  | nil =>
    have : L = [] := by simpa using hl
    exact ⟨[], rfl, by rw [this]⟩
  | @cons x l1 l2 _ ih =>
    cases L with
    | nil => cases hl
    | cons p L =>
      rw [List.map_cons] at hl
      injection hl with e1 e2
      obtain ⟨L', q1, q2⟩ := ih e2
      exact ⟨p :: L', by rw [List.map_cons, e1, q1], q2.cons p⟩
  | swap x y l =>
    match L, hl with
    | p :: q :: L, hl =>
      rw [List.map_cons, List.map_cons] at hl
      injection hl with e1 hl
      injection hl with e2 e3
      exact ⟨q :: p :: L, by rw [List.map_cons, List.map_cons, e1, e2, e3], .swap ..⟩
  | trans _ _ ih1 ih2 =>
    obtain ⟨L1, q1, q2⟩ := ih2 hl
    obtain ⟨L2, q3, q4⟩ := ih1 q1.symm
    exact ⟨L2, q3, q4.trans q2⟩
theorem sub_inv {α β : Type} {f : α → β} {S : List α} : ∀ {L : List β}, (∀ p ∈ L, p ∈ S.map f) → ∃ M : List α, L = M.map f ∧ ∀ q ∈ M, q ∈ S
  | [], _ => ⟨[], rfl, fun q h => by cases h⟩
  | p :: L, h => by
    obtain ⟨q, hq, e⟩ := List.mem_map.mp (h p (List.mem_cons_self ..))
    obtain ⟨M, e1, h1⟩ := sub_inv (L := L) fun r hr => h r (List.mem_cons_of_mem _ hr)
    refine ⟨q :: M, by rw [List.map_cons, e, e1], fun r hr => ?_⟩
    rcases List.mem_cons.mp hr with rfl | hr
    · exact hq
    · exact h1 r hr
end U
end

section
set_option Elab.async false
set_option linter.all false
set_option maxRecDepth 100000
namespace U
open PySem PySem.Spec PyProof.Rows L2
theorem each_pairs {α β : Type} {M : List (α × β)} : ∀ {N : List (α × β)}, (∀ q ∈ N, q ∈ M) → PySem.W.EachIs (fun v d => (v, d) ∈ M) (N.map (·.1)) (N.map (·.2))
  | [], _ => .nil
  | q :: N, h => .cons (h q (List.mem_cons_self ..)) (each_pairs fun r hr => h r (List.mem_cons_of_mem _ hr))
section
variable {P : Program} {w : World} {A : Around} {E : Value → Shared → Prop} {s : Shared} {κ : Type}
theorem each_of_mem {h : Heap} {M : List (Value × D)} (hM : ∀ q ∈ M, ∃ as, Reads h q.1 q.2.py as) : ∀ {us : List Value} {ds : List D}, PySem.W.EachIs (fun v d => (v, d) ∈ M) us ds → PySem.W.EachIs (fun v d => ∃ as, Reads h v (D.py d) as) us ds
  | _, _, .nil => .nil
  | _, _, .cons q t => .cons (hM _ q) (each_of_mem hM t)
theorem sorted_road (rd : Road P w κ) {a : Addr} {L : List (Value × κ)} (R : rd.Rel s.heap a L) (hh : A.handled = none) {M : List (Value × D)} (eM : L.map (·.1) = M.map (·.1)) (hM : ∀ q ∈ M, ∃ as, Reads s.heap q.1 q.2.py as) (c : CanSort (M.map (·.2)))
    (hu : A.units + 64 < cLine) {Q : Value → Shared → Prop}
    (hQ : ∀ s' p (ov : List Value) (n : Nat) (M' : List (Value × D)), (∀ b o, s.heap.get? b = some o → s'.heap.get? b = some o) → s'.gens = s.gens → s'.os = s.os → s.heap.objs.size ≤ p → s'.heap.get? p = some (seqObj "list" ov.toArray n) →
      M'.Perm M → PySem.W.EachIs (fun v d => (v, d) ∈ M) ov (sortD (M'.map (·.2))) → Q (.ref p) s') : wpAny (model P w) A (call (.builtin "sorted") [.ref a]) Q E s := by
  obtain ⟨es, ep, t, hat, hfit, hsb, hris, hled, hvs⟩ := rd.out R
  refine Calls.call_function_entry kind_sorted plain_sorted entry_sorted (args_sorted1 _) ?_
  unfold Builtin.«sorted»
  refine wpAny_bind (m := checkCount "sorted" 1 1 _) (wpAny_pure (wpAny_bind (collect_set (A := A.in1) hh hat hfit hsb hris hled fun s1 vs k1 hz g1 o1 pm => ?_)))
  rw [hvs, eM] at pm
  obtain ⟨M', rfl, pM⟩ := perm_inv pm
  have hsub : ∀ q ∈ M', q ∈ M := fun q hq => pM.mem_iff.mp hq
  have cl : CanSort (M'.map (·.2)) := c.sub (fun d hd => by
    obtain ⟨q, hq, rfl⟩ := List.mem_map.mp hd
    exact List.mem_map.mpr ⟨q, hsub q hq, rfl⟩) (by rw [List.length_map, List.length_map, pM.length_eq]; exact Nat.le_refl _)
  have hL : (M'.map (·.1)).length ≤ sizeLine := by
    have := cl.len
    rw [List.length_map] at this ⊢
    exact lim_ok this
  refine wpAny_bind (wpAny_newList ?_ hL)
  have hoL : (s1.heap.push (seqObj "list" (M'.map (·.1)).toArray 0)).get? s1.heap.objs.size = some (seqObj "list" (M'.map (·.1)).toArray 0) := Heap.get?_push_size _ rfl
  have kk : ∀ b o, s.heap.get? b = some o → b ≠ s1.heap.objs.size ∧ (s1.heap.push (seqObj "list" (M'.map (·.1)).toArray 0)).get? b = some o := fun b o e => by
    have q := k1 b o e
    exact ⟨Nat.ne_of_lt (Heap.lt_size q), Heap.get?_push_of_some _ q⟩
  have km : ∀ b o, s.heap.get? b = some o → (PySem.W.sortingHeap (s1.heap.push (seqObj "list" (M'.map (·.1)).toArray 0)) s1.heap.objs.size (M'.map (·.1))).get? b = some o := fun b o e => PySem.W.sortingHeap_old (kk b o e).1 (kk b o e).2
  have ep0 := each_pairs hsub
  have hM2 : ∀ q ∈ M, ∃ as, Reads (PySem.W.sortingHeap (s1.heap.push (seqObj "list" (M'.map (·.1)).toArray 0)) s1.heap.objs.size (M'.map (·.1))) q.1 q.2.py as := fun q hq => by
    obtain ⟨as, r⟩ := hM q hq
    exact ⟨as, Reads.keeps km r⟩
  have er := each_of_mem hM2 ep0
  have hal : PySem.W.AllAlike ((M'.map (·.2)).map D.py) := fun x hx y hy => by
    obtain ⟨d, hd, rfl⟩ := List.mem_map.mp hx
    obtain ⟨e, he, rfl⟩ := List.mem_map.mp hy
    exact D.like_py d e (cl.like d hd e he)
  have out := PySem.W.sortVals_data false ep0 er hal
  rw [show (M'.map (·.2)).mergeSort (PySem.W.dataLe false D.py) = sortD (M'.map (·.2)) from merge_eq cl.like] at out
  have S := sorts_D (prog := P) (w := w) (A := A.in1.in1) (s := { s1 with heap := PySem.W.sortingHeap (s1.heap.push (seqObj "list" (M'.map (·.1)).toArray 0)) s1.heap.objs.size (M'.map (·.1)) }) cl er (by show A.units + 1 + 1 + 61 < cLine; omega)
  refine wpAny_bind (wpAny_holding (wpAny_call_entry slot_list_sort ⟨_, hoL, rfl⟩ entry_list_sort (PySem.W.list_sort_vals (s := { s1 with heap := s1.heap.push (seqObj "list" (M'.map (·.1)).toArray 0) }) hoL S hL ⟨_, rfl, ?_⟩) (args_list_sort _)))
  generalize PySem.W.sortVals _ false (M'.map (·.1)) (M'.map (·.1)) = ov at out ⊢
  obtain ⟨n, hn⟩ := sortedHeap_at (vs := M'.map (·.1)) (out := ov.toArray) hoL
  refine wpAny_pure ⟨_, rfl, hQ _ s1.heap.objs.size ov n M' (fun b u e => ?_) g1 o1 hz hn pM out⟩
  show (sortedHeap (s1.heap.push (seqObj "list" (M'.map (·.1)).toArray 0)) s1.heap.objs.size (M'.map (·.1)) ov.toArray).get? b = some u
  rw [sortedHeap_old (kk b u e).1 (by rw [size_push']; exact Nat.lt_succ_of_lt (Heap.lt_size (k1 b u e)))]
  exact (kk b u e).2
end
/-! ### unlike ones -/
def dedupD : List D → List D
  | [] => []
  | d :: ds => if d.mem ds then dedupD ds else d :: dedupD ds
theorem mem_D {d : D} {ds : List D} (hl : ∀ e ∈ ds, e.like d = true) : d.mem ds = true → d ∈ ds := fun h => by
  obtain ⟨e, he, q⟩ := List.any_eq_true.mp h
  rw [← eqb_eq e d (hl e he) q]; exact he
mutual
theorem eqb_refl : ∀ (d : D), d.like d = true → d.eqb d = true
  | .non, _ => rfl
  | .bl a, _ => by simp [D.eqb]
  | .int a, _ => by simp [D.eqb]
  | .str a, _ => by simp [D.eqb]
  | .tup xs, h => by simp only [D.eqb]; exact eqbL_refl xs (by simpa [D.like] using h)
  | .lst xs, h => by simp only [D.eqb]; exact eqbL_refl xs (by simpa [D.like] using h)
  | .dct _ _ _, h => by simp [D.like] at h
  | .exc _ _, h => by simp [D.like] at h
  | .scr _, h => by simp [D.like] at h
theorem eqbL_refl : ∀ (ds : List D), D.likeL ds ds = true → D.eqbL ds ds = true
  | [], _ => rfl
  | d :: ds, h => by
    simp only [D.likeL, Bool.and_eq_true] at h
    simp only [D.eqbL, Bool.and_eq_true]
    exact ⟨eqb_refl d h.1, eqbL_refl ds h.2⟩
end
theorem dedup_spec : ∀ {ds : List D}, (∀ d ∈ ds, ∀ e ∈ ds, d.like e = true) → (dedupD ds).Nodup ∧ ∀ d, d ∈ dedupD ds ↔ d ∈ ds
  | [], _ => ⟨List.nodup_nil, fun d => Iff.rfl⟩
  | d :: ds, h => by
    obtain ⟨n, m⟩ := dedup_spec (ds := ds) fun x hx y hy => h x (List.mem_cons_of_mem _ hx) y (List.mem_cons_of_mem _ hy)
    unfold dedupD
    by_cases c : d.mem ds = true
    · rw [if_pos c]
      have hd := mem_D (fun e he => h e (List.mem_cons_of_mem _ he) d (List.mem_cons_self ..)) c
      refine ⟨n, fun x => ?_⟩
      rw [m x]
      refine ⟨fun z => List.mem_cons_of_mem _ z, fun z => ?_⟩
      rcases List.mem_cons.mp z with rfl | z
      · exact hd
      · exact z
    · rw [if_neg c]
      have hd : d ∉ dedupD ds := fun z => c (List.any_eq_true.mpr ⟨d, (m d).mp z, eqb_refl d (h d (List.mem_cons_self ..) d (List.mem_cons_self ..))⟩)
      refine ⟨List.nodup_cons.mpr ⟨hd, n⟩, fun x => ?_⟩
      rw [List.mem_cons, List.mem_cons, m x]
def setD (ds : List D) : List D := sortD (dedupD ds)
/-- a list with the same members, none twice, sorted: the set -/
theorem setD_eq {ds es : List D} (h : ∀ d ∈ ds, ∀ e ∈ ds, d.like e = true) (nd : es.Nodup) (hm : ∀ d, d ∈ es ↔ d ∈ ds) : sortD es = setD ds := by
  obtain ⟨n, m⟩ := dedup_spec h
  have pm : es.Perm (dedupD ds) := (List.perm_ext_iff_of_nodup nd n).mpr fun d => (hm d).trans (m d).symm
  have hs : ∀ d ∈ es, ∀ e ∈ es, d.like e = true := fun d hd e he => h d ((hm d).mp hd) e ((hm e).mp he)
  have hs2 : ∀ d ∈ dedupD ds, ∀ e ∈ dedupD ds, d.like e = true := fun d hd e he => h d ((m d).mp hd) e ((m e).mp he)
  refine sorted_one (le := fun a b => leP a b = true) ((sortD_perm es).trans (pm.trans (sortD_perm _).symm)) (sortD_sorted hs) (sortD_sorted hs2) fun a ha b hb h1 h2 => ?_
  exact leP_anti (hs a ((sortD_perm es).mem_iff.mp ha) b ((sortD_perm es).mem_iff.mp hb)) h1 h2
end U
end

section
set_option Elab.async false
set_option linter.all false
set_option maxRecDepth 100000
namespace U
open PySem PySem.Spec PyProof.Rows L2
/-! ### data that may stand in a set -/
mutual
def D.hs : D → Nat → Bool
  | .non, _ => true
  | .bl _, _ => true
  | .int _, _ => true
  | .str _, _ => true
  | .tup xs, n => match n with
    | 0 => false
    | n + 1 => D.hsL xs n
  | .lst _, _ => false
  | .dct _ _ _, _ => false
  | .exc _ _, _ => false
  | .ptp _, _ => false
  | .scr _, _ => false
def D.hsL : List D → Nat → Bool
  | [], _ => true
  | d :: ds, n => d.hs n && D.hsL ds n
end
mutual
def D.nk : D → NK
  | .bl b => .num (if b then 1 else 0)
  | .int i => .num i
  | .str x => .text (stO x)
  | .tup xs => .tup (D.nkL xs)
  | .non => .none
  | .lst _ => .none
  | .dct _ _ _ => .none
  | .exc _ _ => .none
  | .ptp _ => .none
  | .scr _ => .none
def D.nkL : List D → List NK
  | [] => []
  | d :: ds => d.nk :: D.nkL ds
end
mutual
theorem nk_is {h : Heap} : ∀ (d : D) (n : Nat) (v : Value) (as : List Addr), d.hs n = true → Reads h v d.py as → NestedIs h d.nk v ∧ d.nk.depth ≤ n
  | .non, n, v, as, _, r => by simp only [D.py] at r; cases r; exact ⟨.none, by simp [D.nk, NestedKey.depth]⟩
  | .bl b, n, v, as, _, r => by simp only [D.py] at r; cases r; exact ⟨.bool rfl, by simp [D.nk, NestedKey.depth]⟩
  | .int i, n, v, as, _, r => by simp only [D.py] at r; cases r; exact ⟨.int _ _, by simp [D.nk, NestedKey.depth]⟩
  | .str x, n, v, as, _, r => by simp only [D.py] at r; cases r; exact ⟨.text _ _, by simp [D.nk, NestedKey.depth]⟩
  | .tup xs, 0, v, as, h, _ => by simp [D.hs] at h
  | .tup xs, n + 1, v, as, h, r => by
    simp only [D.py] at r
    cases r with
    | tuple h1 h2 h3 h4 =>
      obtain ⟨a, b⟩ := nk_isL xs n _ _ (by simpa [D.hs] using h) h4
      exact ⟨.tup h1 h2 h3 a, by simp only [D.nk, NestedKey.depth]; omega⟩
  | .lst _, n, _, _, h, _ => by simp [D.hs] at h
  | .dct _ _ _, n, _, _, h, _ => by simp [D.hs] at h
  | .exc _ _, n, _, _, h, _ => by simp [D.hs] at h
  | .ptp _, n, _, _, h, _ => by simp [D.hs] at h
  | .scr _, n, _, _, h, _ => by simp [D.hs] at h
theorem nk_isL {h : Heap} : ∀ (ds : List D) (n : Nat) (vs : List Value) (as : List Addr), D.hsL ds n = true → ReadsAll h vs (D.pyL ds) as → NestedAll h (D.nkL ds) vs ∧ NestedKey.depthAll (D.nkL ds) ≤ n
  | [], n, vs, as, _, r => by simp only [D.pyL] at r; cases r; exact ⟨.nil, by simp [D.nkL, NestedKey.depthAll]⟩
  | d :: ds, n, vs, as, h, r => by
    simp only [D.pyL] at r
    simp only [D.hsL, Bool.and_eq_true] at h
    cases r with
    | cons r1 r2 =>
      obtain ⟨a1, b1⟩ := nk_is d n _ _ h.1 r1
      obtain ⟨a2, b2⟩ := nk_isL ds n _ _ h.2 r2
      exact ⟨.cons a1 a2, by simp only [D.nkL, NestedKey.depthAll]; omega⟩
end
theorem stO_inj {x y : List Nat} (h : stO x = stO y) : x = y := by
  have := congrArg (fun z : Str => z.cps.toList) h
  simpa using this
mutual
theorem nk_inj : ∀ (d e : D) (n : Nat), d.like e = true → d.hs n = true → d.nk = e.nk → d = e
  | .non, e, n, h, _, _ => by cases e <;> first | (simp [D.like] at h; done) | rfl
  | .bl a, e, n, h, _, q => by
    cases e <;> first | (simp [D.like] at h; done) | skip
    rename_i b
    simp only [D.nk, NestedKey.num.injEq] at q
    cases a <;> cases b <;> first | rfl | (simp at q)
  | .int i, e, n, h, _, q => by
    cases e <;> first | (simp [D.like] at h; done) | skip
    simp only [D.nk, NestedKey.num.injEq] at q; rw [q]
  | .str x, e, n, h, _, q => by
    cases e <;> first | (simp [D.like] at h; done) | skip
    simp only [D.nk, NestedKey.text.injEq] at q; rw [stO_inj q]
  | .tup xs, e, 0, _, g, _ => by simp [D.hs] at g
  | .tup xs, e, n + 1, h, g, q => by
    cases e <;> first | (simp [D.like] at h; done) | skip
    simp only [D.nk, NestedKey.tup.injEq] at q
    rw [nk_injL xs _ n (by simpa [D.like] using h) (by simpa [D.hs] using g) q]
  | .lst _, _, n, _, g, _ => by simp [D.hs] at g
  | .dct _ _ _, _, n, _, g, _ => by simp [D.hs] at g
  | .exc _ _, _, n, _, g, _ => by simp [D.hs] at g
  | .ptp _, _, n, _, g, _ => by simp [D.hs] at g
  | .scr _, _, n, _, g, _ => by simp [D.hs] at g
theorem nk_injL : ∀ (ds es : List D) (n : Nat), D.likeL ds es = true → D.hsL ds n = true → D.nkL ds = D.nkL es → ds = es
  | [], es, n, _, _, q => by cases es <;> first | rfl | (simp [D.nkL] at q)
  | d :: ds, [], n, _, _, q => by simp [D.nkL] at q
  | d :: ds, e :: es, n, h, g, q => by
    simp only [D.likeL, Bool.and_eq_true] at h
    simp only [D.hsL, Bool.and_eq_true] at g
    simp only [D.nkL, List.cons.injEq] at q
    rw [nk_inj d e n h.1 g.1 q.1, nk_injL ds es n h.2 g.2 q.2]
end
theorem key_inj {d e : D} {k : Key} (h : d.key = some k) (h' : e.key = some k) : d = e := by
  cases d <;> cases e <;> simp only [D.key] at h h' <;> first | (cases h; done) | (cases h'; done) | skip
  · cases h; cases h'; rfl
  · cases h; cases h'
  · cases h; cases h'
  · cases h
    have : stO _ = stO _ := Sum.inr.inj (Option.some.inj h')
    rw [stO_inj this]
def okSet (ds : List D) : Bool := canSort ds && decide ((dedupD ds).length < 64) && (ds.all (·.key.isSome) || (ds.all isTup && ds.all (·.hs 8)))
def gSS : D → Option PR
  | .lst ds => if okSet ds then some (.o (.l (setD ds))) else none
  | .tup ds => if okSet ds then some (.o (.l (setD ds))) else none
  | _ => none
theorem nodup_sub {α : Type} : ∀ {l m : List α}, l.Nodup → (∀ x ∈ l, x ∈ m) → l.length ≤ m.length
  | [], m, _, _ => Nat.zero_le _
  | x :: l, m, nd, h => by
    obtain ⟨n1, n2⟩ := List.nodup_cons.mp nd
    obtain ⟨a, b, rfl⟩ := List.append_of_mem (h x (List.mem_cons_self ..))
    have q := nodup_sub (m := a ++ b) n2 fun y hy => by
      have z := h y (List.mem_cons_of_mem _ hy)
      rcases List.mem_append.mp z with z | z
      · exact List.mem_append_left _ z
      · rcases List.mem_cons.mp z with rfl | z
        · exact absurd hy n1
        · exact List.mem_append_right _ z
    simp only [List.length_append, List.length_cons] at q ⊢
    omega
section
variable {X : Cx}
theorem ss_core {κ : Type} (rd : Road X.prog X.w κ) (kf : D → κ) (hc : X.calm = true) (hu : X.A.units + 64 < cLine) {pins : List (Addr × Obj)} {s : Shared} {σ : St} {H F : Hp} {Q : VK} {l : Addr} {vs : List V} {its : List Value} {ds : List D} (I : Inv X pins σ H s) (sb : Sub F H) (rv : Vals vs its) (r1 : RepL X.K F vs ds)
    (hl : s.heap.IsList l its.toArray ∨ s.heap.IsTuple l its.toArray) (c : CanSort ds) (few : (dedupD ds).length < 64) (kis : ∀ d ∈ ds, ∀ v as, Reads s.heap v d.py as → rd.Is s.heap (kf d) v) (kinj : ∀ d ∈ ds, ∀ e ∈ ds, kf d = kf e → d = e)
    (pw : PW X.K F H (.o (.l (setD ds))) Q) : wpAny (model X.prog X.w) X.A (call (.type "set") [.ref l]) (fun v s' => wpAny (model X.prog X.w) X.A (call (.builtin "sorted") [v]) (EP X pins σ Q) X.xe s') X.xe s := by
  obtain ⟨as, ra⟩ := Dp.readsAll I (D.pyL ds) vs its (r1.dp sb (okL_of c.ok)) rv
  have er := each_reads ra
  have est := each_stands rv r1
  have hlen : its.length = ds.length := by rw [← rv.length, r1.length]
  have hmem : ∀ {us : List Value} {es : List D}, PySem.W.EachIs (fun v d => ∃ as, Reads s.heap v (D.py d) as) us es → PySem.W.EachIs (Stands X.K F) us es → ∀ q ∈ us.zip es, (∃ as, Reads s.heap q.1 q.2.py as) ∧ Stands X.K F q.1 q.2 := by
    intro us es h1 h2
    induction h1 with
    | nil => intro q hq; cases hq
    | cons a t ih =>
      cases h2 with
      | cons b t2 =>
        intro q hq
        rcases List.mem_cons.mp (by simpa using hq : q ∈ _ :: _) with rfl | hq
        · exact ⟨a, b⟩
        · exact ih t2 q hq
  have hT := hmem er est
  have hz1 : (its.zip ds).map (·.1) = its := List.map_fst_zip (by omega)
  have hz2 : (its.zip ds).map (·.2) = ds := List.map_snd_zip (by omega)
  have hks : its.toArray.toList = ((its.zip ds).map fun q => (q.1, kf q.2)).map (·.1) := by
    rw [List.map_map]
    exact hz1.symm
  have hk : ∀ p ∈ (its.zip ds).map (fun q => (q.1, kf q.2)), rd.Is s.heap p.2 p.1 := fun p hp => by
    obtain ⟨q, hq, rfl⟩ := List.mem_map.mp hp
    obtain ⟨⟨as, r⟩, _⟩ := hT q hq
    exact kis q.2 (by rw [← hz2]; exact List.mem_map.mpr ⟨q, hq, rfl⟩) _ _ r
  have hfew : FewK ((its.zip ds).map fun q => (q.1, kf q.2)) := fun ll nd hs => by
    have q := nodup_sub (m := (dedupD ds).map kf) nd fun x hx => by
      obtain ⟨p, hp, rfl⟩ := List.mem_map.mp (hs x hx)
      obtain ⟨q, hq, rfl⟩ := List.mem_map.mp hp
      refine List.mem_map.mpr ⟨q.2, ((dedup_spec c.like).2 q.2).mpr ?_, rfl⟩
      rw [← hz2]; exact List.mem_map.mpr ⟨q, hq, rfl⟩
    rw [List.length_map] at q
    omega
  have fin : ∀ (h' : Heap) (tk : Nat) (L : List (Value × κ)), rd.Rel h' s.heap.objs.size L → Kept ((its.zip ds).map fun q => (q.1, kf q.2)) ((its.zip ds).map fun q => (q.1, kf q.2)).length L → (∀ b o, s.heap.get? b = some o → h'.get? b = some o) →
      wpAny (model X.prog X.w) X.A (call (.builtin "sorted") [.ref s.heap.objs.size]) (EP X pins σ Q) X.xe { s with heap := h', toks := tk } := fun h' tk L R g k => by
    have I2 : Inv X pins σ H { s with heap := h', toks := tk } := I.kept k
    obtain ⟨M, eL, hM⟩ := sub_inv (f := fun q : Value × D => (q.1, kf q.2)) (S := its.zip ds) (L := L) fun p hp => List.mem_of_mem_take (g.sub p hp)
    have nd := rd.nd R
    rw [eL, List.map_map] at nd
    have ndM : (M.map (·.2)).Nodup := by
      have : ((M.map (·.2)).map kf).Nodup := by rw [List.map_map]; exact nd
      exact nodup_of_map this
    have mem : ∀ d, d ∈ M.map (·.2) ↔ d ∈ ds := fun d => by
      constructor
      · intro h
        obtain ⟨q, hq, rfl⟩ := List.mem_map.mp h
        rw [← hz2]; exact List.mem_map.mpr ⟨q, hM q hq, rfl⟩
      · intro h
        have h2 := h
        rw [← hz2] at h2
        obtain ⟨q, hq, rfl⟩ := List.mem_map.mp h2
        have ha := g.all (q.1, kf q.2) (by rw [List.take_length]; exact List.mem_map.mpr ⟨q, hq, rfl⟩)
        rw [eL, List.map_map] at ha
        obtain ⟨q', hq', e⟩ := List.mem_map.mp ha
        have hd' : q'.2 ∈ ds := by rw [← hz2]; exact List.mem_map.mpr ⟨q', hM q' hq', rfl⟩
        have e2 := kinj q'.2 hd' q.2 h e
        rw [← e2]
        exact List.mem_map.mpr ⟨q', hq', rfl⟩
    have cM : CanSort (M.map (·.2)) := c.sub (fun d hd => (mem d).mp hd) (nodup_sub ndM fun d hd => (mem d).mp hd)
    refine sorted_road (s := { s with heap := h', toks := tk }) rd R (I2.ok.hd hc) (M := M) (by rw [eL, List.map_map]; rfl) (fun q hq => ?_) cM hu fun s' p ov n M' k2 g2 o2 hp hg pM out => ?_
    · obtain ⟨⟨as, r⟩, _⟩ := hT q (hM q hq)
      exact ⟨as, Reads.keeps k r⟩
    · rw [setD_eq c.like ((pM.map (·.2)).nodup_iff.mpr ndM) fun d => ((pM.map (·.2)).mem_iff).trans (mem d)] at out
      have st : ∀ {us : List Value} {es : List D}, PySem.W.EachIs (fun v d => (v, d) ∈ M) us es → PySem.W.EachIs (Stands X.K F) us es := by
        intro us es h
        induction h with
        | nil => exact .nil
        | cons a t ih => exact .cons (hT _ (hM _ a)).2 ih
      obtain ⟨xs, v1, v2⟩ := stands_each (st out)
      have hn : H p = none := I2.hok.fresh hp
      have hxl : xs.length ≤ sizeLine := by
        rw [v2.length]
        have : (setD ds).length ≤ ds.length := by
          unfold setD
          rw [(sortD_perm _).length_eq]
          exact nodup_sub (dedup_spec c.like).1 fun d hd => ((dedup_spec c.like).2 d).mp hd
        exact lim_ok (Nat.le_trans this c.len)
      have J : Inv X pins σ (upd H p (.lst xs)) { ({ s with heap := h', toks := tk } : Shared) with heap := s'.heap, gens := s'.gens, drawn := s'.drawn, toks := s'.toks } :=
        I2.call (ch := []) (Un.laid k2 hp hn) (I2.hok.laid k2 hp ⟨hxl, ov, n, v1, hg⟩) (by rw [g2]; exact I2.bare) (fun _ z => nomatch z)
      have e : s' = { ({ s with heap := h', toks := tk } : Shared) with heap := s'.heap, gens := s'.gens, drawn := s'.drawn, toks := s'.toks } := by
        cases s'
        cases s
        cases o2
        rfl
      rw [e]
      exact ⟨.ref p, _, J, rfl, pw.lst sb v2 p hn⟩
  rcases hl with hl | hl
  · exact call_set_list rd _ (I.ok.hd hc) hl hks hk hfew (by omega) fin
  · exact call_set_tuple rd _ (I.ok.hd hc) hl hks hk hfew (by omega) fin
end
end U
end

section
set_option Elab.async false
set_option linter.all false
set_option maxRecDepth 100000
namespace U
open PySem PySem.Spec PyProof.Rows L2
section
variable {X : Cx} {e : Expr} {p p2 q pos : Pos} {t : TA}
theorem okSet_of {ds : List D} (h : okSet ds = true) : CanSort ds ∧ (dedupD ds).length < 64 ∧ ((∀ d ∈ ds, d.key.isSome = true) ∨ ∀ d ∈ ds, isTup d = true ∧ d.hs 8 = true) := by
  unfold okSet at h
  simp only [Bool.and_eq_true, Bool.or_eq_true, decide_eq_true_eq] at h
  refine ⟨canSort_of h.1.1, h.1.2, h.2.imp (fun z => List.all_eq_true.mp z) fun z d hd => ⟨List.all_eq_true.mp z.1 d hd, List.all_eq_true.mp z.2 d hd⟩⟩
theorem keyIs_of {h : Heap} {d : D} {k : Key} {v : Value} {as : List Addr} (e : d.key = some k) (r : Reads h v d.py as) : (mixKind X.prog X.w).is k v = true ∧ v.scannable = true := by
  cases d <;> simp only [D.key] at e <;> first | (cases e; done) | skip
  · cases e
    simp only [D.py] at r
    cases r
    exact ⟨mixKind_int _ _ _ _, rfl⟩
  · cases e
    simp only [D.py] at r
    cases r
    exact ⟨mixKind_str _ _ _ _, rfl⟩
theorem ss_any (hc : X.calm = true) (hu : X.A.units + 64 < cLine) {pins : List (Addr × Obj)} {s : Shared} {σ : St} {H F : Hp} {Q : VK} {l : Addr} {vs : List V} {its : List Value} {ds : List D} (I : Inv X pins σ H s) (sb : Sub F H) (rv : Vals vs its) (r1 : RepL X.K F vs ds)
    (hl : s.heap.IsList l its.toArray ∨ s.heap.IsTuple l its.toArray) (ok : okSet ds = true) (pw : PW X.K F H (.o (.l (setD ds))) Q) :
    wpAny (model X.prog X.w) X.A (call (.type "set") [.ref l]) (fun v s' => wpAny (model X.prog X.w) X.A (call (.builtin "sorted") [v]) (EP X pins σ Q) X.xe s') X.xe s := by
  obtain ⟨c, few, hk⟩ := okSet_of ok
  rcases hk with hk | hk
  · refine ss_core (roadS X.prog X.w) (fun d => d.key.getD (.inl 0)) hc hu I sb rv r1 hl c few (fun d hd v as r => ?_) (fun d hd e' he' q => ?_) pw
    · obtain ⟨k, ek⟩ := Option.isSome_iff_exists.mp (hk d hd)
      rw [ek]
      exact keyIs_of ek r
    · obtain ⟨k, ek⟩ := Option.isSome_iff_exists.mp (hk d hd)
      obtain ⟨k', ek'⟩ := Option.isSome_iff_exists.mp (hk e' he')
      rw [ek, ek'] at q
      have q : k = k' := q
      exact key_inj ek (by rw [q]; exact ek')
  · refine ss_core (roadT X.prog X.w) D.nk hc hu I sb rv r1 hl c few (fun d hd v as r => ?_) (fun d hd e' he' q => nk_inj d e' 8 (c.like d hd e' he') (hk d hd).2 q) pw
    obtain ⟨a, b⟩ := nk_is d 8 v as (hk d hd).2 r
    obtain ⟨xs, ex⟩ := py_tup (hk d hd).1
    rw [ex] at r
    cases r with
    | tuple h1 h2 h3 h4 => exact ⟨_, rfl, a, b⟩
theorem pe_ss (hc : X.calm = true) (hu : X.A.units + 64 < cLine) (hg : Gl X "sorted") (hm : X.mg "sorted" = none) (hg2 : Gl X "set") (hm2 : X.mg "set" = none) (ha : PA X [e] t) (na : starEach [e] X.env = (false, eval e X.env) :: starEach [] X.env) :
    PE X (.Call (.Name "sorted" p) [.Call (.Name "set" p2) [e] [] q] [] pos) (tCB (rC X.K (g1 gSS)) t) := by
  refine ⟨fun pins s σ H Q I h => ?_⟩
  refine wpAny_Call_Name_kw (ld_blt I hg hm PyProof.Rows.boot_sorted ?_ (by decide) (by decide))
  refine PyProof.Rows.callWith_builtin1 (PyProof.Rows.args_cons ?_ rfl) rfl rfl
  refine wpAny_Call_Name_kw (ld_blt I hg2 hm2 PyProof.Rows.boot_set ?_ (by decide) (by decide))
  refine PyProof.Rows.callWith_type1 (thn (ha.run q pins s σ H _ I h) fun us s1 ⟨vs, H1, I1, r1, F, ds, r, sb, n, hg, pw⟩ => ?_) na rfl
  obtain ⟨d, rfl, hg⟩ := g1_some hg
  obtain ⟨x, rfl, n1⟩ := n.one
  cases d with
  | lst ds =>
    unfold gSS at hg
    obtain ⟨c, rfl⟩ := ite_some hg
    obtain ⟨a, vs, rfl, ha, r2⟩ := n1.lst sb
    obtain ⟨its, rv, pl, _⟩ := I1.list (.inl (.of ha))
    rw [Vals.ref1 r1]
    exact thn (ss_any hc hu I1 sb rv r2 (.inl pl.isList) c pw) fun v s2 hv => PyProof.Rows.args_nil hv
  | tup ds =>
    unfold gSS at hg
    obtain ⟨c, rfl⟩ := ite_some hg
    obtain ⟨a, vs, rfl, ha, r2⟩ := n1.tup sb
    obtain ⟨its, rv, pl, _⟩ := I1.tuple (.inl (.of ha))
    rw [Vals.ref1 r1]
    exact thn (ss_any hc hu I1 sb rv r2 (.inr pl) c pw) fun v s2 hv => PyProof.Rows.args_nil hv
  | _ => cases hg
variable {px : PX} {W : WX}
/-- sorted(set(e)) -/
theorem jx_ss {f : T → Rs (List BR)} (hc : X.calm = true) (hu : X.A.units + 64 < cLine) (hg : Gl X "sorted") (hm : X.mg "sorted" = none) (hg2 : Gl X "set") (hm2 : X.mg "set" = none) (ha : JAB px W X [e] f) (na : starEach [e] X.env = (false, eval e X.env) :: starEach [] X.env) :
    JX px W X (.Call (.Name "sorted" p) [.Call (.Name "set" p2) [e] [] q] [] pos) (sCB (g1 gSS) f) := PE.imp (pe_ss hc hu hg hm hg2 hm2 ha na) fun _ _ _ h => rd_cb h
end
end U
end

section
set_option Elab.async false
set_option linter.all false
set_option maxRecDepth 100000
namespace U
open PySem PySem.Spec PyProof.Rows L2
/-! ### an own def called by keywords -/
def pick {α : Type} (is : List Nat) (l : List α) : List α := is.filterMap fun i => l[i]?
theorem vals_get : ∀ {zs : List V} {ws : List Value}, Vals zs ws → ∀ i : Nat, (zs[i]? = none ∧ ws[i]? = none) ∨ ∃ z w, zs[i]? = some z ∧ ws[i]? = some w ∧ RelV z w
  | _, _, .nil, i => .inl (by simp)
  | _, _, .cons r t, 0 => .inr ⟨_, _, rfl, rfl, r⟩
  | _, _, .cons r t, i + 1 => by simpa using vals_get t i
theorem vals_pick {zs : List V} {ws : List Value} (h : Vals zs ws) : ∀ is : List Nat, Vals (pick is zs) (pick is ws)
  | [] => .nil
  | i :: is => by
    have ih := vals_pick h is
    unfold pick at ih ⊢
    rcases vals_get h i with ⟨e1, e2⟩ | ⟨z, w, e1, e2, r⟩
    · rw [List.filterMap_cons_none e1, List.filterMap_cons_none e2]; exact ih
    · rw [List.filterMap_cons_some e1, List.filterMap_cons_some e2]; exact .cons r ih
theorem brl_get {K : PySem.W.Frag} {F : Hp} {σ : St} : ∀ {vs : List V} {bs : List BR}, BRL K F σ vs bs → ∀ i : Nat, (vs[i]? = none ∧ bs[i]? = none) ∨ ∃ z w, vs[i]? = some z ∧ bs[i]? = some w ∧ BRep K F σ z w
  | _, _, .nil, i => .inl (by simp)
  | _, _, .cons r t, 0 => .inr ⟨_, _, rfl, rfl, r⟩
  | _, _, .cons r t, i + 1 => by simpa using brl_get t i
theorem brl_pick {K : PySem.W.Frag} {F : Hp} {σ : St} {vs : List V} {bs : List BR} (h : BRL K F σ vs bs) : ∀ is : List Nat, BRL K F σ (pick is vs) (pick is bs)
  | [] => .nil
  | i :: is => by
    have ih := brl_pick h is
    unfold pick at ih ⊢
    rcases brl_get h i with ⟨e1, e2⟩ | ⟨z, w, e1, e2, r⟩
    · rw [List.filterMap_cons_none e1, List.filterMap_cons_none e2]; exact ih
    · rw [List.filterMap_cons_some e1, List.filterMap_cons_some e2]; exact .cons r ih
/-- the keywords' values, put in the parameters' order -/
def sPick (is : List Nat) (f : T → Rs (List BR)) : T → Rs (List BR) := fun τ => (f τ).bind fun bs τ1 => .ok (pick is bs) τ1
def JK (px : PX) (W : WX) (X : Cx) (kws : List Keyword) (f : T → Rs (List BR)) : Prop := PK X kws (fun σ H Q => ∃ M F τ, SRel X.K M F H σ τ ∧ Post X.K px W M F H σ (f τ) fun bs _ F' H' => ∀ vs, BRL X.K F' σ vs bs → Q vs H')
theorem PK.imp {X : Cx} {kws : List Keyword} {t t' : TA} (h : PK X kws t) (i : ∀ σ H Q, t' σ H Q → t σ H Q) : PK X kws t' := ⟨fun p pins s σ H Q I q => h.run p pins s σ H Q I (i _ _ _ q)⟩
section
variable {px : PX} {W : WX} {X : Cx} {k : Nat} {x : Str} {p pos kpos : Pos} {e : Expr} {kws : List Keyword} {nm : Option Str}
theorem jk_nil : JK px W X [] sBNil := PK.imp pk_nil fun σ H Q ⟨M, F, τ, s, p⟩ => p F H .refl s _ .nil
theorem jk_cons {f : T → Rs BR} {g : T → Rs (List BR)} (ha : JB px W X e f) (hr : JK px W X kws g) : JK px W X (⟨nm, e, kpos⟩ :: kws) (sBCons f g) :=
  PK.imp (pk_cons ha hr) fun σ H Q ⟨M, F, τ, s, p⟩ => rdB_bind s p fun d τ1 F1 H1 v g1 s1 rv p1 =>
    ⟨M, F1, τ1, s1, p1.bind.imp fun ds τ2 F2 H2 g2 s2 p2 vs rvs => p2 F2 H2 .refl s2 _ (.cons (rv.mono g2.frz) rvs)⟩
theorem run_fnKS {CX : CXT} {sp : Sp} {f : Addr} {fd : FuncData} {ps ks : List Str} {E : St → XK} {is : List Nat} {pins : List (Addr × Obj)} {σ : St} {H : Hp} {s : Shared} {Q : VK} {ws : List Value} {zs : List V} (F : FnOk X.prog X.w X.K X.mg X.base CX k f fd ps sp) (hr : Room k X.A)
    (hb : ∀ (s : Shared) (ws : List Value), ws.length = ks.length → BindsTo s fd ⟨[], ks.zip ws⟩ (ps.zip (pick is ws))) (hx : PassesAt CX X σ (E σ)) (I : Inv X pins σ H s) (rz : Vals zs ws) (l2 : zs.length = ks.length) (h : sp (pick is zs) H Q (E σ)) :
    wpAny (model X.prog X.w) X.A (call (.ref f) [] (ks.zip ws)) (EP X pins σ Q) X.xe s := by
  refine wpAny_call (codeAny_mono (F.run X.A X.stack s H ⟨[], ks.zip ws⟩ (pick is ws) (pick is zs) Q (E σ) hr I.env0 (hb s ws (rz.length.symm.trans l2)) (vals_pick rz is) h) fun r s' hq => ?_)
  cases r with
  | error e => exact hx pins H s e s' I hq
  | ok fl =>
    cases fl with
    | ret u => exact I.after hq
    | next => exact False.elim hq
    | brk => exact False.elim hq
    | cont => exact False.elim hq
theorem jk_len {f : T → Rs (List BR)} {n : Nat} (hn : ∀ τ bs τ1, f τ = .ok bs τ1 → bs.length = n) {K : PySem.W.Frag} {M : MS} {F H : Hp} {σ : St} {τ : T} {R : List BR → T → Hp → Hp → Prop} (p : Post K px W M F H σ (f τ) R) : Post K px W M F H σ (f τ) fun bs τ' F' H' => bs.length = n ∧ R bs τ' F' H' := by
  cases e : f τ with
  | ok a t => rw [e] at p; exact fun F' H' g s => ⟨hn _ _ _ e, p F' H' g s⟩
  | exc x t => rw [e] at p; exact p
  | stuck => rw [e] at p; exact p
theorem jx_ownK {den : List Sl → DR} {fa : T → Rs (List BR)} {a : Arguments} {ps ks : List Str} {is : List Nat} {m : Nat} (C : Callee X.prog X.w X.K X.mg X.base px x a ps k den) (hr : Room k X.A) (tk : Takes X W) (hg : Gl X x) (ha : JK px W X kws fa)
    (hbA : ∀ (y : Str) (body : List Stmt) (sc : Scope) (kV doc pm : Value) (an : Option Addr) (cdv ct : Value) (ws : List Value), ws.length = m → bindArgs (PySem.W.fnOf y y a body sc .none kV doc pm an cdv ct) ⟨[], ks.zip ws⟩ = pure (ps.zip (pick is ws)))
    (hm' : ks.length = m) (hn : ∀ τ bs τ1, fa τ = .ok bs τ1 → bs.length = m) (hn2 : ∀ τ bs τ1, sPick is fa τ = .ok bs τ1 → bs.length = ps.length)
    (hall : (backToKw pos (keywordEach kws X.env)).all (·.1.isSome) = true) (hks : (backToKw pos (keywordEach kws X.env)).filterMap (·.1) = ks) (hdb : (x == ("__debug__" : Str)) = false)
    (hpl : ((backTo pos (starEach [] X.env)).any (·.1) || (backToKw pos (keywordEach kws X.env)).any (·.1.isNone)) = false) : JX px W X (.Call (.Name x p) [] kws pos) (sCall den (sPick is fa)) := by
  obtain ⟨f, fd, F, hm, hk, _, y, body, sc, FD⟩ := C.ex
  have hb : ∀ (s : Shared) (ws : List Value), ws.length = ks.length → BindsTo s fd ⟨[], ks.zip ws⟩ (ps.zip (pick is ws)) := fun s ws hl => by
    obtain ⟨oc, od, dV, kV, doc, pm, an, cdv, ct, osl, rfl, lk, hcd, hD, hK⟩ := FD.ex
    rcases hD with ⟨_, rfl⟩ | ⟨e, _⟩
    · exact .of_eq (hbA _ _ _ kV doc pm an cdv ct ws (hl.trans hm'))
    · exact absurd rfl e
  refine ⟨fun pins s σ H Q I h => ?_⟩
  obtain ⟨M, Fz, τ, sr, pp⟩ := rd_call hn2 h
  refine wpAny_Call_Name_kw (ld_glob I hg hm ?_ hdb)
  refine PySem.W.callWith_KW0 (h₀ := X.base) I.ok.mod.kin hk hall (thn (ha.run pos pins s σ H (fun zs H2 => zs.length = ks.length ∧ spOf X.K px ps.length den (pick is zs) H2 Q (WE W σ)) I ⟨M, Fz, τ, sr, ?_⟩) fun ws s2 ⟨zs, H2, I2, rz, l2, q2⟩ => ⟨I2.kIn, ?_⟩) hpl
  · refine (jk_len hn pp.bind).imp fun bs τ1 F1 H1 g1 s1 ⟨hl, p1⟩ vs rvs => ⟨by rw [rvs.length, hl, hm'], p1 F1 H1 .refl s1 _ (brl_pick rvs is)⟩
  · rw [hks]
    exact run_fnKS F hr hb (passAt tk σ) I2 rz l2 q2
theorem blP {f : T → Rs (List BR)} {is : List Nat} {m n : Nat} (h : ∀ τ bs τ1, f τ = .ok bs τ1 → bs.length = m) (hp : ∀ bs : List BR, bs.length = m → (pick is bs).length = n) : ∀ τ bs τ1, sPick is f τ = .ok bs τ1 → bs.length = n := fun τ bs τ1 e => by
  unfold sPick at e
  cases ef : f τ with
  | stuck => rw [ef] at e; cases e
  | exc x t => rw [ef] at e; cases e
  | ok b t =>
    rw [ef] at e
    cases e
    exact hp _ (h _ _ _ ef)
end
theorem evl5 : (∀ is f τ, sPick is f τ = (f τ).bind fun bs τ1 => .ok (pick is bs) τ1) ∧ (∀ (α : Type) (l : List α), pick [] l = []) ∧ (∀ (i : Nat) (is : List Nat) (l : List BR) (b : BR), l[i]? = some b → pick (i :: is) l = b :: pick is l) :=
  ⟨fun _ _ _ => rfl, fun _ _ => rfl, fun i is l b h => List.filterMap_cons_some h⟩
end U
end

section
set_option Elab.async false
set_option linter.all false
set_option maxRecDepth 100000
namespace U
open PySem PySem.Spec PyProof.Rows L2
/-! loops and comprehensions by name -/
def sForB (it : T → Rs (List D)) (body : D → T → SR) : T → SR := fun τ => (it τ).s fun ds τ1 => forL body ds τ1
def sLcB (it : T → Rs (List D)) (tc : D → T → Rs (Option D)) (vs : List Nat) : T → Rs PR := fun τ => (it τ).bind fun ds τ1 => (compL tc ds (wipeT τ1 vs) []).bind fun acc τ2 => .ok (.o (.l acc)) (restT τ1 vs τ2)
theorem evl6 : (∀ it body τ, sForB it body τ = (it τ).s fun ds τ1 => forL body ds τ1) ∧ (∀ it tc vs τ, sLcB it tc vs τ = (it τ).bind fun ds τ1 => (compL tc ds (wipeT τ1 vs) []).bind fun acc τ2 => .ok (.o (.l acc)) (restT τ1 vs τ2)) := ⟨fun _ _ _ => rfl, fun _ _ _ _ => rfl⟩
end U
end

section
set_option Elab.async false
set_option linter.all false
set_option maxRecDepth 100000
namespace U
open PySem PySem.Spec PyProof.Rows L2
/-! dict comprehensions, keys ints or texts -/
def putP (acc : List (D × D)) (k v : D) : List (D × D) :=
  if (acc.any fun p => p.1.eqb k) = true then acc.map (fun p => if p.1.eqb k = true then (p.1, v) else p) else acc ++ [(k, v)]
def turnK (g : D → T → Option T) (tt : T → Rs Bool) (ek ev : T → Rs D) (vs : List Nat) : D → T → Rs (Option (D × D)) := fun d τ => match g d τ with
  | none => .stuck
  | some τ1 => match tt τ1 with
    | .ok false τ2 => .ok none (wipeT τ2 vs)
    | .ok true τ2 => (match ek τ2 with
      | .ok k τ3 => (match ev τ3 with
        | .ok z τ4 => .ok (some (k, z)) (wipeT τ4 vs)
        | _ => .stuck)
      | _ => .stuck)
    | _ => .stuck
def compK (f : D → T → Rs (Option (D × D))) : List D → T → List (D × D) → Rs (List (D × D))
  | [], τ, acc => .ok acc τ
  | d :: ds, τ, acc => match f d τ with
    | .ok (some (k, z)) τ1 => if acc.length < lim then (match k.key with
      | some _ => compK f ds τ1 (putP acc k z)
      | none => .stuck) else .stuck
    | .ok none τ1 => compK f ds τ1 acc
    | _ => .stuck
def sDc (fi : T → Rs (List D)) (g : D → T → Option T) (tt : T → Rs Bool) (ek ev : T → Rs D) (vs : List Nat) : T → Rs PR := fun τ => (fi τ).bind fun ds τ1 => (compK (turnK g tt ek ev vs) ds (wipeT τ1 vs) []).bind fun acc τ2 => .ok (.o (.d false (acc.map (·.1)) (acc.map (·.2)))) (restT τ1 vs τ2)
/-- pairs of a dict -/
inductive RepK (K : PySem.W.Frag) (F : Hp) : List (Key × V) → List (D × D) → Prop
  | nil : RepK K F [] []
  | cons {k : Key} {v : V} {kvs : List (Key × V)} {a b : D} {ps : List (D × D)} : a.key = some k → Rep K F v b → RepK K F kvs ps → RepK K F ((k, v) :: kvs) ((a, b) :: ps)
section
variable {K : PySem.W.Frag} {F F' : Hp}
theorem RepK.mono (e : Sub F F') : ∀ {kvs : List (Key × V)} {ps : List (D × D)}, RepK K F kvs ps → RepK K F' kvs ps
  | _, _, .nil => .nil
  | _, _, .cons h r q => .cons h (r.mono e) (RepK.mono e q)
theorem RepK.length : ∀ {kvs : List (Key × V)} {ps : List (D × D)}, RepK K F kvs ps → kvs.length = ps.length
  | _, _, .nil => rfl
  | _, _, .cons h r q => by rw [List.length_cons, List.length_cons, RepK.length q]
theorem RepK.keys : ∀ {kvs : List (Key × V)} {ps : List (D × D)}, RepK K F kvs ps → keysOf (ps.map (·.1)) = some (kvs.map (·.1))
  | _, _, .nil => rfl
  | _, _, .cons h r q => by simp only [List.map_cons, keysOf, h, RepK.keys q]
theorem RepK.vals : ∀ {kvs : List (Key × V)} {ps : List (D × D)}, RepK K F kvs ps → RepL K F (kvs.map (·.2)) (ps.map (·.2))
  | _, _, .nil => .nil
  | _, _, .cons h r q => .cons r (RepK.vals q)
theorem RepK.own {kvs : List (Key × V)} {ps : List (D × D)} (h : RepK K F kvs ps) : OwnO K F (.d false (ps.map (·.1)) (ps.map (·.2))) (.dK kvs) := .dK h.keys h.vals
theorem RepK.app : ∀ {kvs ws : List (Key × V)} {ps qs : List (D × D)}, RepK K F kvs ps → RepK K F ws qs → RepK K F (kvs ++ ws) (ps ++ qs)
  | _, _, _, _, .nil, q => q
  | _, _, _, _, .cons h r z, q => .cons h r (RepK.app z q)
theorem RepK.any {d : D} {k : Key} (hk : d.key = some k) : ∀ {kvs : List (Key × V)} {ps : List (D × D)}, RepK K F kvs ps → (ps.any fun p => p.1.eqb d) = kvs.any fun kv => decide (kv.1 = k)
  | _, _, .nil => rfl
  | _, _, .cons h r q => by rw [List.any_cons, List.any_cons, RepK.any hk q, key_eqb h hk]
theorem RepK.repl {d b : D} {k : Key} {v : V} (hk : d.key = some k) (rv : Rep K F v b) : ∀ {kvs : List (Key × V)} {ps : List (D × D)}, RepK K F kvs ps → RepK K F (kvs.map fun kv => if kv.1 = k then (kv.1, v) else kv) (ps.map fun p => if p.1.eqb d = true then (p.1, b) else p)
  | _, _, .nil => .nil
  | _, _, .cons (k := k') (a := a) h r q => by
    rw [List.map_cons, List.map_cons]
    have e := key_eqb h hk
    by_cases c : k' = k
    · rw [decide_eq_true c] at e
      simp only [c, e, if_true]
      exact .cons (by rw [← c]; exact h) rv (RepK.repl hk rv q)
    · rw [decide_eq_false c] at e
      simp only [c, e, if_false, Bool.false_eq_true]
      exact .cons h r (RepK.repl hk rv q)
theorem RepK.put {d b : D} {k : Key} {v : V} {kvs : List (Key × V)} {ps : List (D × D)} (q : RepK K F kvs ps) (hk : d.key = some k) (rv : Rep K F v b) : RepK K F (putK kvs k v) (putP ps d b) := by
  unfold putK putP
  rw [q.any hk]
  by_cases c : (kvs.any fun kv => decide (kv.1 = k)) = true
  · rw [if_pos c, if_pos c]; exact q.repl hk rv
  · rw [if_neg c, if_neg c]; exact q.app (.cons hk rv .nil)
end
theorem turnK_wiped {g : D → T → Option T} {tt : T → Rs Bool} {ek ev : T → Rs D} {vs : List Nat} {d : D} {τ t : T} {z : Option (D × D)} (q : turnK g tt ek ev vs d τ = .ok z t) : ∀ (i : Nat) (sl : Sl), t[i]? = some sl → sl ≠ .no → i ∉ vs := by
  unfold turnK at q
  cases e1 : g d τ with
  | none => rw [e1] at q; cases q
  | some τ1 =>
    simp only [e1] at q
    cases e2 : tt τ1 with
    | stuck => rw [e2] at q; cases q
    | exc x t => rw [e2] at q; cases q
    | ok b τ2 =>
      rw [e2] at q
      cases b with
      | false => cases q; exact fun i sl a b => wipeT_get a b
      | true =>
        simp only at q
        cases e3 : ek τ2 with
        | stuck => rw [e3] at q; cases q
        | exc x t => rw [e3] at q; cases q
        | ok k τ3 =>
          simp only [e3] at q
          cases e4 : ev τ3 with
          | stuck => rw [e4] at q; cases q
          | exc x t => rw [e4] at q; cases q
          | ok v τ4 => rw [e4] at q; cases q; exact fun i sl a b => wipeT_get a b
theorem compK_wiped {f : D → T → Rs (Option (D × D))} {vs : List Nat} (hf : ∀ d τ z t, f d τ = .ok z t → ∀ (i : Nat) (sl : Sl), t[i]? = some sl → sl ≠ .no → i ∉ vs) : ∀ (ds : List D) (τ : T) (acc out : List (D × D)) (τ' : T), (∀ (i : Nat) (sl : Sl), τ[i]? = some sl → sl ≠ .no → i ∉ vs) →
    compK f ds τ acc = .ok out τ' → ∀ (i : Nat) (sl : Sl), τ'[i]? = some sl → sl ≠ .no → i ∉ vs
  | [], τ, acc, out, τ', h, e => by
    cases e; exact h
  | d :: ds, τ, acc, out, τ', h, e => by
    unfold compK at e
    cases q : f d τ with
    | stuck => rw [q] at e; cases e
    | exc x t => rw [q] at e; cases e
    | ok z t =>
      have hw := hf d τ z t q
      cases z with
      | none => rw [q] at e; exact compK_wiped hf ds t acc out τ' hw e
      | some z =>
        obtain ⟨k, z⟩ := z
        simp only [q] at e
        by_cases c : acc.length < lim
        · rw [if_pos c] at e
          cases ek : k.key with
          | none => rw [ek] at e; cases e
          | some k' => rw [ek] at e; exact compK_wiped hf ds t _ out τ' hw e
        · rw [if_neg c] at e; cases e
theorem compK_noexc {f : D → T → Rs (Option (D × D))} : ∀ (ds : List D) (τ : T) (acc : List (D × D)) (x : Ex) (t : T), compK f ds τ acc ≠ .exc x t
  | [], τ, acc, x, t, e => by cases e
  | d :: ds, τ, acc, x, t, e => by
    unfold compK at e
    cases q : f d τ with
    | stuck => rw [q] at e; cases e
    | exc x t => rw [q] at e; cases e
    | ok z t' =>
      cases z with
      | none => rw [q] at e; exact compK_noexc ds t' acc x t e
      | some z =>
        obtain ⟨k, z⟩ := z
        simp only [q] at e
        by_cases c : acc.length < lim
        · rw [if_pos c] at e
          cases ek : k.key with
          | none => rw [ek] at e; cases e
          | some k' => rw [ek] at e; exact compK_noexc ds t' _ x t e
        · rw [if_neg c] at e; cases e
section
variable {px : PX} {W : WX} {X : Cx} {pos : Pos} {tg iter kx vx : Expr} {ifs : List Expr} {scope : Scope} {own : List (Str × Nat)}
theorem rd_dc {fi : T → Rs (List D)} {g : D → T → Option T} {tt : T → Rs Bool} {ek ev : T → Rs D} {σ : St} {H : Hp} {Q : VK} {K : PySem.W.Frag} {vs : List Nat} (h : rdX K px W (sDc fi g tt ek ev vs) σ H Q) :
    tDc (rdI K px W fi) (rdG K vs g) (rdT K px W0 tt) (rdE K px W0 ek) (rdE K px W0 ev) vs σ H Q := by
  obtain ⟨M, F, τ, s, p⟩ := h
  refine ⟨M, F, τ, s, p.bind.imp fun ds τ1 F1 H1 g1 s1 p1 J cf => fun A hA => ?_⟩
  cases ec : compK (turnK g tt ek ev vs) ds (wipeT τ1 vs) [] with
  | stuck => rw [ec] at p1; exact p1.elim
  | exc x t => exact absurd ec (compK_noexc _ _ _ _ _)
  | ok out τo =>
    rw [ec] at p1
    have p1 : Post K px W M F1 H1 σ (.ok (.o (.d false (out.map (·.1)) (out.map (·.2)))) (restT τ1 vs τo)) (RX K M σ Q) := p1
    have hwo := compK_wiped (fun _ _ _ _ q => turnK_wiped q) ds _ _ out τo (fun i sl a b => wipeT_get a b) ec
    have hf1 : F1 A = none := s1.new (o := .dK []) hA
    have fo := s1.fresh_own (u := .dK []) (o := .d false [] []) hA (.dK rfl .nil)
    refine ⟨fun i m H' => ∃ F' τ' acc accV, m = ds.length - i ∧ i ≤ ds.length ∧ Sub F1 F' ∧ Grow M F1 H1 F' H' ∧ SRel K (M.but A) F' H' (wipe σ vs) τ' ∧ H' A = some (.dK accV) ∧ F' A = none ∧ RepK K F' accV acc ∧ (∀ (i : Nat) (sl : Sl), τ'[i]? = some sl → sl ≠ .no → i ∉ vs) ∧
      compK (turnK g tt ek ev vs) (ds.drop i) τ' acc = .ok out τo, ⟨ds.length, F1, wipeT τ1 vs, [], [], by simp, Nat.zero_le _, Sub.refl _, grow_alloc hA, ?_, upd_same, hf1, .nil, fun i sl a b => wipeT_get a b, ec⟩, ?_⟩
    · refine SRel.but (u := .dK []) ((s1.alloc hA).wiped vs) upd_same fun i sl e m z => ?_
      obtain ⟨a', u, e', _, _, _, _, hx⟩ := fo
      cases e'
      have hn : i ∉ vs := wipeT_get e fun q => by subst q; exact m rfl
      have hz : σ[i]? = some (some (V.ref A)) := (wipe_some z).1
      obtain ⟨o, hm⟩ := Option.ne_none_iff_exists'.mp m
      have hs := (s1.alloc (o := .dK []) hA).wiped vs
      obtain ⟨b, w, h1, h2, h3, h4, h5⟩ := (s1.wiped vs).own i sl o e hm
      rw [h1] at z
      cases z
      rw [hA] at h2
      cases h2
    · rintro i m H' ⟨F', τ', acc, accV, rfl, hi, sf, gg, s', hA', hf', ra, hw, hc⟩
      by_cases hlt : i < ds.length
      · refine .inr ⟨cf.go i H' hlt (sf.trans s'.sub), fun H3 => ∃ F3 τ3 acc3 accV3, Sub F1 F3 ∧ Grow M F1 H1 F3 H3 ∧ SRel K (M.but A) F3 H3 (wipe σ vs) τ3 ∧ H3 A = some (.dK accV3) ∧ F3 A = none ∧ RepK K F3 accV3 acc3 ∧ (∀ (i : Nat) (sl : Sl), τ3[i]? = some sl → sl ≠ .no → i ∉ vs) ∧ compK (turnK g tt ek ev vs) (ds.drop (i + 1)) τ3 acc3 = .ok out τo,
          fun H3 ⟨F3, τ3, c3, v3, a1, a2, a3, a4, a5, a6, a7, a8⟩ => ⟨ds.length - (i + 1), by omega, F3, τ3, c3, v3, rfl, hlt, a1, a2, a3, a4, a5, a6, a7, a8⟩, fun x H2 y => ?_⟩
        have hd : ds[i]? = some ds[i] := by simp [hlt]
        obtain ⟨F2, n2, r2⟩ := cf.yld i F' H' x H2 _ hd sf s'.sub y
        have s2 := n2.srel s'
        rw [List.drop_eq_getElem_cons hlt] at hc
        unfold compK at hc
        cases eg : g ds[i] τ' with
        | none => simp only [turnK, eg] at hc; cases hc
        | some τ2 =>
          simp only [turnK, eg] at hc
          refine ⟨M.but A, F2, τ', ds[i], τ2, s2, r2, eg, fun σ2 o2 s2' => ⟨?_, M.but A, F2, τ2, s2', ?_⟩⟩
          · apply List.ext_getElem?
            intro j
            by_cases hj : j ∈ vs
            · by_cases hl : j < σ.length
              · have e1 : ∀ σ' : St, j < σ'.length → (wipe σ' vs)[j]? = some none := fun σ' hl' => by
                  cases q : (wipe σ' vs)[j]? with
                  | none => rw [List.getElem?_eq_none_iff, wipe_length] at q; omega
                  | some v => cases v with
                    | none => rfl
                    | some v => exact absurd hj (wipe_some q).2
                have hl2 : σ2.length = σ.length := by rw [o2.1, wipe_length]
                rw [e1 σ hl, e1 σ2 (by omega)]
              · have hl2 : σ2.length = σ.length := by rw [o2.1, wipe_length]
                rw [List.getElem?_eq_none (by rw [wipe_length]; omega), List.getElem?_eq_none (by rw [wipe_length]; omega)]
            · rw [wipe_out hj, o2.2 j hj]
          · cases et : tt τ2 with
            | stuck => simp only [et] at hc; cases hc
            | exc x t => simp only [et] at hc; cases hc
            | ok k τ3 =>
              intro F3 H3 g3 s3
              have wp2 : wipe σ2 vs = wipe σ vs := by
                apply List.ext_getElem?
                intro j
                by_cases hj : j ∈ vs
                · by_cases hl : j < σ.length
                  · have e1 : ∀ σ' : St, j < σ'.length → (wipe σ' vs)[j]? = some none := fun σ' hl' => by
                      cases q : (wipe σ' vs)[j]? with
                      | none => rw [List.getElem?_eq_none_iff, wipe_length] at q; omega
                      | some v => cases v with
                        | none => rfl
                        | some v => exact absurd hj (wipe_some q).2
                    have hl2 : σ2.length = σ.length := by rw [o2.1, wipe_length]
                    rw [e1 σ hl, e1 σ2 (by omega)]
                  · have hl2 : σ2.length = σ.length := by rw [o2.1, wipe_length]
                    rw [List.getElem?_eq_none (by rw [wipe_length]; omega), List.getElem?_eq_none (by rw [wipe_length]; omega)]
                · rw [wipe_out hj, o2.2 j hj]
              have hnA : ¬ (M.but A).m A := fun z => z.2 rfl
              have G3 : Grow M F1 H1 F3 H3 := gg.trans ((n2.grow (M := M)).trans g3.unbut)
              have hA2 : H2 A = some (.dK accV) := n2.keep _ _ hA'
              have hA3 : H3 A = some (.dK accV) := g3.keep A _ hA2 hnA
              have hf2 : F2 A = none := n2.free A hf' (by rw [hA']; exact fun z => nomatch z)
              have hf3 : F3 A = none := g3.free A hf2 (by rw [hA2]; exact fun z => nomatch z) hnA
              have ra3 : RepK K F3 accV acc := ra.mono (n2.frz.trans g3.frz)
              have sf3 : Sub F1 F3 := sf.trans (n2.frz.trans g3.frz)
              cases k with
              | false =>
                simp only [et] at hc
                show (if false = true then _ else _)
                rw [if_neg Bool.false_ne_true]
                exact ⟨F3, wipeT τ3 vs, acc, accV, sf3, G3, by rw [← wp2]; exact s3.wiped vs, hA3, hf3, ra3, fun i sl a b => wipeT_get a b, hc⟩
              | true =>
                show (if true = true then _ else _)
                rw [if_pos rfl]
                cases ee : ek τ3 with
                | stuck => simp only [et, ee] at hc; cases hc
                | exc x t => simp only [et, ee] at hc; cases hc
                | ok zk τ4 =>
                  cases e5 : ev τ4 with
                  | stuck => simp only [et, ee, e5] at hc; cases hc
                  | exc x t => simp only [et, ee, e5] at hc; cases hc
                  | ok z τ5 =>
                  simp only [et, ee, e5] at hc
                  by_cases cl : acc.length < lim
                  · rw [if_pos cl] at hc
                    cases ek' : zk.key with
                    | none => rw [ek'] at hc; cases hc
                    | some k =>
                    rw [ek'] at hc
                    refine ⟨M.but A, F3, τ3, s3, ?_⟩
                    rw [ee]
                    intro F4 H4 g4 s4 y ry
                    have ey : y = kV k := key_rep ek' ry
                    have hA4 : H4 A = some (.dK accV) := g4.keep A _ hA3 hnA
                    have hf4 : F4 A = none := g4.free A hf3 (by rw [hA3]; exact fun z => nomatch z) hnA
                    have ra4 := ra3.mono g4.frz
                    refine ⟨M.but A, F4, τ4, s4, ?_⟩
                    rw [e5]
                    intro F5 H5 g5 s5 v rv
                    have hA5 : H5 A = some (.dK accV) := g5.keep A _ hA4 hnA
                    have hf5 : F5 A = none := g5.free A hf4 (by rw [hA4]; exact fun z => nomatch z) hnA
                    have ra5 := ra4.mono g5.frz
                    refine ⟨accV, k, ey, hA5, by rw [ra.length]; exact lim_lt cl, F5, wipeT τ5 vs, putP acc zk z, putK accV k v, sf3.trans (g4.frz.trans g5.frz), ?_, ?_, upd_same, hf5, ra5.put ek' rv, fun i sl a b => wipeT_get a b, hc⟩
                    · refine ((G3.trans g4.unbut).trans g5.unbut).trans (but_step hA5 ?_)
                      exact s1.up A hA
                    · rw [← wp2]; exact (s5.wiped vs).butStep hA5 hf5
                  · rw [if_neg cl] at hc; cases hc
      · have e : i = ds.length := by omega
        subst e
        rw [List.drop_length] at hc
        cases hc
        refine .inl ⟨cf.stop H' (sf.trans s'.sub), ?_⟩
        have s3 := s'.unbut.unwipe hw
        refine p1 F' H' gg (SRel.rest s1 sf s3 vs) _ ⟨A, _, rfl, hA', hf', s1.up A hA, (ra.own), fun i sl e m z => ?_⟩
        obtain ⟨e', hn⟩ := rest_mut vs e m
        obtain ⟨o, hm⟩ := Option.ne_none_iff_exists'.mp m
        obtain ⟨b, w, h1, h2, h3, h4, h5⟩ := s'.own i sl o e' hm
        have h1' : σ[i]? = some (some (V.ref b)) := (wipe_some h1).1
        rw [h1'] at z
        cases z
        exact h4.2 rfl
theorem jx_dc {fi : T → Rs (List D)} {g : D → T → Option T} {tt : T → Rs Bool} {ek ev : T → Rs D} (hc : X.calm = true) (hN : X.N.Nodup) (hi : JI px W X tg iter fi) (ok : BlkOk X.N X.env.scope scope own)
    (hg : ∀ (s : Shared) (H : Hp) (C : Addr) (cl : List (Str × Addr)) (fp : List Addr), JG (X.blk s H scope (compEnvC scope cl C X.env) fp) tg (own.map (·.2)) g)
    (ht : ∀ (s : Shared) (H : Hp) (C : Addr) (cl : List (Str × Addr)) (fp : List Addr), JTs px W0 (X.blk s H scope (compEnvC scope cl C X.env) fp) ifs tt)
    (hk : ∀ (s : Shared) (H : Hp) (C : Addr) (cl : List (Str × Addr)) (fp : List Addr), JE px W0 (X.blk s H scope (compEnvC scope cl C X.env) fp) kx ek)
    (he : ∀ (s : Shared) (H : Hp) (C : Addr) (cl : List (Str × Addr)) (fp : List Addr), JE px W0 (X.blk s H scope (compEnvC scope cl C X.env) fp) vx ev) (hs : ∀ x, foldedSetIterable iter X.env x = pure x) :
    JX px W X (.DictComp kx vx [⟨tg, iter, ifs, 0⟩] scope pos) (sDc fi g tt ek ev (own.map (·.2))) :=
  PE.imp (pe_dc (g := rdG X.K (List.map (fun x : Str × Nat => x.2) own) g) (tt := rdT X.K px W0 tt) (tk := rdE X.K px W0 ek) (tv := rdE X.K px W0 ev) hc hN hi ok hg ht hk he hs) fun _ _ _ h => rd_dc h
end
end U
end

section
set_option Elab.async false
set_option linter.all false
set_option maxRecDepth 100000
namespace U
open PySem PySem.Spec PyProof.Rows L2
/-! comprehensions of two clauses -/
def turnC2 (g : D → T → Option T) (tt : T → Rs Bool) (fi1 : T → Rs (List D)) (f1 : D → T → Rs (Option D)) (vs vs1 : List Nat) : D → T → List D → Rs (List D) := fun d τ acc => match g d τ with
  | none => .stuck
  | some τ1 => match tt τ1 with
    | .ok false τ2 => .ok acc (wipeT τ2 vs)
    | .ok true τ2 => (match fi1 τ2 with
      | .ok ds τ3 => (match compL f1 ds (wipeT τ3 vs1) acc with
        | .ok acc' τ4 => .ok acc' (wipeT τ4 vs)
        | _ => .stuck)
      | _ => .stuck)
    | _ => .stuck
def compL2 (f : D → T → List D → Rs (List D)) : List D → T → List D → Rs (List D)
  | [], τ, acc => .ok acc τ
  | d :: ds, τ, acc => match f d τ acc with
    | .ok acc' τ1 => compL2 f ds τ1 acc'
    | _ => .stuck
def sLc2 (fi : T → Rs (List D)) (g : D → T → Option T) (tt : T → Rs Bool) (fi1 : T → Rs (List D)) (g1 : D → T → Option T) (tt1 : T → Rs Bool) (el : T → Rs D) (vs vs1 : List Nat) : T → Rs PR := fun τ => (fi τ).bind fun ds τ1 => (compL2 (turnC2 g tt fi1 (turnC g1 tt1 el vs1) vs vs1) ds (wipeT τ1 vs) []).bind fun acc τ2 => .ok (.o (.l acc)) (restT τ1 vs τ2)
theorem turnC2_wiped {g : D → T → Option T} {tt : T → Rs Bool} {fi1 : T → Rs (List D)} {f1 : D → T → Rs (Option D)} {vs vs1 : List Nat} {d : D} {τ t : T} {acc out : List D} (q : turnC2 g tt fi1 f1 vs vs1 d τ acc = .ok out t) : ∀ (i : Nat) (sl : Sl), t[i]? = some sl → sl ≠ .no → i ∉ vs := by
  unfold turnC2 at q
  cases e1 : g d τ with
  | none => rw [e1] at q; cases q
  | some τ1 =>
    simp only [e1] at q
    cases e2 : tt τ1 with
    | stuck => rw [e2] at q; cases q
    | exc x t => rw [e2] at q; cases q
    | ok b τ2 =>
      rw [e2] at q
      cases b with
      | false => cases q; exact fun i sl a b => wipeT_get a b
      | true =>
        simp only at q
        cases e3 : fi1 τ2 with
        | stuck => rw [e3] at q; cases q
        | exc x t => rw [e3] at q; cases q
        | ok k τ3 =>
          simp only [e3] at q
          cases e4 : compL f1 k (wipeT τ3 vs1) acc with
          | stuck => rw [e4] at q; cases q
          | exc x t => rw [e4] at q; cases q
          | ok v τ4 => rw [e4] at q; cases q; exact fun i sl a b => wipeT_get a b
theorem compL2_wiped {f : D → T → List D → Rs (List D)} {vs : List Nat} (hf : ∀ d τ acc z t, f d τ acc = .ok z t → ∀ (i : Nat) (sl : Sl), t[i]? = some sl → sl ≠ .no → i ∉ vs) : ∀ (ds : List D) (τ : T) (acc out : List D) (τ' : T), (∀ (i : Nat) (sl : Sl), τ[i]? = some sl → sl ≠ .no → i ∉ vs) →
    compL2 f ds τ acc = .ok out τ' → ∀ (i : Nat) (sl : Sl), τ'[i]? = some sl → sl ≠ .no → i ∉ vs
  | [], τ, acc, out, τ', h, e => by
    cases e; exact h
  | d :: ds, τ, acc, out, τ', h, e => by
    unfold compL2 at e
    cases q : f d τ acc with
    | stuck => rw [q] at e; cases e
    | exc x t => rw [q] at e; cases e
    | ok z t => rw [q] at e; exact compL2_wiped hf ds t z out τ' (hf d τ acc z t q) e
theorem compL2_noexc {f : D → T → List D → Rs (List D)} : ∀ (ds : List D) (τ : T) (acc : List D) (x : Ex) (t : T), compL2 f ds τ acc ≠ .exc x t
  | [], τ, acc, x, t, e => by cases e
  | d :: ds, τ, acc, x, t, e => by
    unfold compL2 at e
    cases q : f d τ acc with
    | stuck => rw [q] at e; cases e
    | exc x t => rw [q] at e; cases e
    | ok z t' => rw [q] at e; exact compL2_noexc ds t' z x t e
theorem wipe_same {σ σ2 : St} {vs : List Nat} (hl : σ2.length = σ.length) (h : ∀ j, j ∉ vs → σ2[j]? = σ[j]?) : wipe σ2 vs = wipe σ vs := by
  apply List.ext_getElem?
  intro j
  by_cases hj : j ∈ vs
  · by_cases c : j < σ.length
    · have e1 : ∀ σ' : St, j < σ'.length → (wipe σ' vs)[j]? = some none := fun σ' hl' => by
        cases q : (wipe σ' vs)[j]? with
        | none => rw [List.getElem?_eq_none_iff, wipe_length] at q; omega
        | some v => cases v with
          | none => rfl
          | some v => exact absurd hj (wipe_some q).2
      rw [e1 σ c, e1 σ2 (by omega)]
    · rw [List.getElem?_eq_none (by rw [wipe_length]; omega), List.getElem?_eq_none (by rw [wipe_length]; omega)]
  · rw [wipe_out hj, wipe_out hj, h j hj]
section
variable {px : PX} {K : PySem.W.Frag}
/-- the loop of a clause that puts in -/
theorem in_loop {M : MS} {F1 H1 : Hp} {σ : St} {τ0 : T} {A : Addr} {accV0 : List V} {acc0 out : List D} {τo : T} {J : It} {ds : List D} {g : D → T → Option T} {tt : T → Rs Bool} {el : T → Rs D} {vs : List Nat} {Nx : Hp → Prop}
    (cf : Conf K F1 J ds) (s0 : SRel K (M.but A) F1 H1 (wipe σ vs) τ0) (hw0 : ∀ (i : Nat) (sl : Sl), τ0[i]? = some sl → sl ≠ .no → i ∉ vs) (mA : M.m A) (hA0 : H1 A = some (.lst accV0)) (hf0 : F1 A = none) (r0 : RepL K F1 accV0 acc0) (ec : compL (turnC g tt el vs) ds τ0 acc0 = .ok out τo)
    (hN : ∀ F' H' accV, Sub F1 F' → Grow M F1 H1 F' H' → SRel K (M.but A) F' H' (wipe σ vs) τo → (∀ (i : Nat) (sl : Sl), τo[i]? = some sl → sl ≠ .no → i ∉ vs) → H' A = some (.lst accV) → F' A = none → RepL K F' accV out → Nx H') :
    ∃ W1 : Nat → Nat → Hp → Prop, (∃ m, W1 0 m H1) ∧ ∀ j k H, W1 j k H → (J.stop j H ∧ Nx H) ∨ (J.go j H ∧ ∃ Nx1 : Hp → Prop, (∀ H', Nx1 H' → ∃ k', k' < k ∧ W1 (j + 1) k' H') ∧ ∀ x H', J.yld j H x H' → rdG K vs g x (wipe σ vs) H' fun σ3 H5 => wipe σ3 vs = wipe σ vs ∧ rdT K px W0 tt σ3 H5 fun b H6 =>
        if b = true then rdE K px W0 el σ3 H6 fun y H7 => ∃ acc, H7 A = some (.lst acc) ∧ acc.length < sizeLine ∧ Nx1 (upd H7 A (.lst (acc ++ [y]))) else Nx1 H6) := by
  refine ⟨fun i m H' => ∃ F' τ' acc accV, m = ds.length - i ∧ i ≤ ds.length ∧ Sub F1 F' ∧ Grow M F1 H1 F' H' ∧ SRel K (M.but A) F' H' (wipe σ vs) τ' ∧ H' A = some (.lst accV) ∧ F' A = none ∧ RepL K F' accV acc ∧ (∀ (i : Nat) (sl : Sl), τ'[i]? = some sl → sl ≠ .no → i ∉ vs) ∧
      compL (turnC g tt el vs) (ds.drop i) τ' acc = .ok out τo, ⟨ds.length, F1, τ0, acc0, accV0, by simp, Nat.zero_le _, Sub.refl _, .refl, s0, hA0, hf0, r0, hw0, ec⟩, ?_⟩
  rintro i m H' ⟨F', τ', acc, accV, rfl, hi, sf, gg, s', hA', hf', ra, hw, hc⟩
  by_cases hlt : i < ds.length
  · refine .inr ⟨cf.go i H' hlt (sf.trans s'.sub), fun H3 => ∃ F3 τ3 acc3 accV3, Sub F1 F3 ∧ Grow M F1 H1 F3 H3 ∧ SRel K (M.but A) F3 H3 (wipe σ vs) τ3 ∧ H3 A = some (.lst accV3) ∧ F3 A = none ∧ RepL K F3 accV3 acc3 ∧ (∀ (i : Nat) (sl : Sl), τ3[i]? = some sl → sl ≠ .no → i ∉ vs) ∧ compL (turnC g tt el vs) (ds.drop (i + 1)) τ3 acc3 = .ok out τo,
          fun H3 ⟨F3, τ3, c3, v3, a1, a2, a3, a4, a5, a6, a7, a8⟩ => ⟨ds.length - (i + 1), by omega, F3, τ3, c3, v3, rfl, hlt, a1, a2, a3, a4, a5, a6, a7, a8⟩, fun x H2 y => ?_⟩
    have hd : ds[i]? = some ds[i] := by simp [hlt]
    obtain ⟨F2, n2, r2⟩ := cf.yld i F' H' x H2 _ hd sf s'.sub y
    have s2 := n2.srel s'
    rw [List.drop_eq_getElem_cons hlt] at hc
    unfold compL at hc
    cases eg : g ds[i] τ' with
    | none => simp only [turnC, eg] at hc; cases hc
    | some τ2 =>
      simp only [turnC, eg] at hc
      refine ⟨M.but A, F2, τ', ds[i], τ2, s2, r2, eg, fun σ2 o2 s2' => ?_⟩
      have hl2 : σ2.length = σ.length := by rw [o2.1, wipe_length]
      have wp2 : wipe σ2 vs = wipe σ vs := wipe_same hl2 fun j hj => by rw [o2.2 j hj, wipe_out hj]
      refine ⟨wp2, M.but A, F2, τ2, s2', ?_⟩
      cases et : tt τ2 with
      | stuck => simp only [et] at hc; cases hc
      | exc x t => simp only [et] at hc; cases hc
      | ok k τ3 =>
        intro F3 H3 g3 s3
        have hnA : ¬ (M.but A).m A := fun z => z.2 rfl
        have G3 : Grow M F1 H1 F3 H3 := gg.trans ((n2.grow (M := M)).trans g3.unbut)
        have hA2 : H2 A = some (.lst accV) := n2.keep _ _ hA'
        have hA3 : H3 A = some (.lst accV) := g3.keep A _ hA2 hnA
        have hf2 : F2 A = none := n2.free A hf' (by rw [hA']; exact fun z => nomatch z)
        have hf3 : F3 A = none := g3.free A hf2 (by rw [hA2]; exact fun z => nomatch z) hnA
        have ra3 : RepL K F3 accV acc := ra.mono (n2.frz.trans g3.frz)
        have sf3 : Sub F1 F3 := sf.trans (n2.frz.trans g3.frz)
        cases k with
        | false =>
          simp only [et] at hc
          show (if false = true then _ else _)
          rw [if_neg Bool.false_ne_true]
          exact ⟨F3, wipeT τ3 vs, acc, accV, sf3, G3, by rw [← wp2]; exact s3.wiped vs, hA3, hf3, ra3, fun i sl a b => wipeT_get a b, hc⟩
        | true =>
          show (if true = true then _ else _)
          rw [if_pos rfl]
          cases ee : el τ3 with
          | stuck => simp only [et, ee] at hc; cases hc
          | exc x t => simp only [et, ee] at hc; cases hc
          | ok z τ4 =>
            simp only [et, ee] at hc
            by_cases cl : acc.length < lim
            · rw [if_pos cl] at hc
              refine ⟨M.but A, F3, τ3, s3, ?_⟩
              rw [ee]
              intro F4 H4 g4 s4 v rv
              have hA4 : H4 A = some (.lst accV) := g4.keep A _ hA3 hnA
              have hf4 : F4 A = none := g4.free A hf3 (by rw [hA3]; exact fun z => nomatch z) hnA
              have ra4 := ra3.mono g4.frz
              refine ⟨accV, hA4, by rw [ra.length]; exact lim_lt cl, F4, wipeT τ4 vs, acc ++ [z], accV ++ [v], sf3.trans g4.frz, ?_, ?_, upd_same, hf4, ra4.append (.cons rv .nil), fun i sl a b => wipeT_get a b, hc⟩
              · exact (G3.trans g4.unbut).trans (but_step hA4 mA)
              · rw [← wp2]; exact (s4.wiped vs).butStep hA4 hf4
            · rw [if_neg cl] at hc; cases hc
  · have e : i = ds.length := by omega
    subst e
    rw [List.drop_length] at hc
    cases hc
    exact .inl ⟨cf.stop H' (sf.trans s'.sub), hN F' H' accV sf gg s' hw hA' hf' ra⟩
end
section
variable {px : PX} {W : WX} {X : Cx} {pos : Pos} {tg iter tg1 iter1 elt : Expr} {ifs ifs1 : List Expr} {scope : Scope} {own : List (Str × Nat)}
theorem rd_lc2 {fi fi1 : T → Rs (List D)} {g g1 : D → T → Option T} {tt tt1 : T → Rs Bool} {el : T → Rs D} {σ : St} {H : Hp} {Q : VK} {K : PySem.W.Frag} {vs vs1 : List Nat} (h : rdX K px W (sLc2 fi g tt fi1 g1 tt1 el vs vs1) σ H Q) :
    tLc2 (rdI K px W fi) (rdG K vs g) (rdT K px W0 tt) (rdI K px W0 fi1) (rdG K vs1 g1) (rdT K px W0 tt1) (rdE K px W0 el) vs vs1 σ H Q := by
  obtain ⟨M, F, τ, s, p⟩ := h
  refine ⟨M, F, τ, s, p.bind.imp fun ds τ1 F1 H1 g1' s1 p1 J cf => fun A hA => ?_⟩
  cases ec : compL2 (turnC2 g tt fi1 (turnC g1 tt1 el vs1) vs vs1) ds (wipeT τ1 vs) [] with
  | stuck => rw [ec] at p1; exact p1.elim
  | exc x t => exact absurd ec (compL2_noexc _ _ _ _ _)
  | ok out τo =>
    rw [ec] at p1
    have p1 : Post K px W M F1 H1 σ (.ok (.o (.l out)) (restT τ1 vs τo)) (RX K M σ Q) := p1
    have hwo := compL2_wiped (fun _ _ _ _ _ q => turnC2_wiped q) ds _ _ out τo (fun i sl a b => wipeT_get a b) ec
    have hf1 : F1 A = none := s1.new (o := .lst []) hA
    have fo := s1.fresh_own (u := .lst []) (o := .l []) hA (.l .nil)
    refine ⟨fun i m H' => ∃ F' τ' acc accV, m = ds.length - i ∧ i ≤ ds.length ∧ Sub F1 F' ∧ Grow M F1 H1 F' H' ∧ SRel K (M.but A) F' H' (wipe σ vs) τ' ∧ H' A = some (.lst accV) ∧ F' A = none ∧ RepL K F' accV acc ∧ (∀ (i : Nat) (sl : Sl), τ'[i]? = some sl → sl ≠ .no → i ∉ vs) ∧
      compL2 (turnC2 g tt fi1 (turnC g1 tt1 el vs1) vs vs1) (ds.drop i) τ' acc = .ok out τo, ⟨ds.length, F1, wipeT τ1 vs, [], [], by simp, Nat.zero_le _, Sub.refl _, grow_alloc hA, ?_, upd_same, hf1, .nil, fun i sl a b => wipeT_get a b, ec⟩, ?_⟩
    · refine SRel.but (u := .lst []) ((s1.alloc hA).wiped vs) upd_same fun i sl e m z => ?_
      have hz : σ[i]? = some (some (V.ref A)) := (wipe_some z).1
      obtain ⟨o, hm⟩ := Option.ne_none_iff_exists'.mp m
      obtain ⟨b, w, h1, h2, h3, h4, h5⟩ := (s1.wiped vs).own i sl o e hm
      rw [h1] at z
      cases z
      rw [hA] at h2
      cases h2
    · rintro i m H' ⟨F', τ', acc, accV, rfl, hi, sf, gg, s', hA', hf', ra, hw, hc⟩
      by_cases hlt : i < ds.length
      · refine .inr ⟨cf.go i H' hlt (sf.trans s'.sub), fun H3 => ∃ F3 τ3 acc3 accV3, Sub F1 F3 ∧ Grow M F1 H1 F3 H3 ∧ SRel K (M.but A) F3 H3 (wipe σ vs) τ3 ∧ H3 A = some (.lst accV3) ∧ F3 A = none ∧ RepL K F3 accV3 acc3 ∧ (∀ (i : Nat) (sl : Sl), τ3[i]? = some sl → sl ≠ .no → i ∉ vs) ∧ compL2 (turnC2 g tt fi1 (turnC g1 tt1 el vs1) vs vs1) (ds.drop (i + 1)) τ3 acc3 = .ok out τo,
          fun H3 ⟨F3, τ3, c3, v3, a1, a2, a3, a4, a5, a6, a7, a8⟩ => ⟨ds.length - (i + 1), by omega, F3, τ3, c3, v3, rfl, hlt, a1, a2, a3, a4, a5, a6, a7, a8⟩, fun x H2 y => ?_⟩
        have hd : ds[i]? = some ds[i] := by simp [hlt]
        obtain ⟨F2, n2, r2⟩ := cf.yld i F' H' x H2 _ hd sf s'.sub y
        have s2 := n2.srel s'
        rw [List.drop_eq_getElem_cons hlt] at hc
        unfold compL2 at hc
        cases eg : g ds[i] τ' with
        | none => simp only [turnC2, eg] at hc; cases hc
        | some τ2 =>
          simp only [turnC2, eg] at hc
          refine ⟨M.but A, F2, τ', ds[i], τ2, s2, r2, eg, fun σ2 o2 s2' => ?_⟩
          have hl2 : σ2.length = σ.length := by rw [o2.1, wipe_length]
          have wp2 : wipe σ2 vs = wipe σ vs := wipe_same hl2 fun j hj => by rw [o2.2 j hj, wipe_out hj]
          refine ⟨wp2, M.but A, F2, τ2, s2', ?_⟩
          cases et : tt τ2 with
          | stuck => simp only [et] at hc; cases hc
          | exc x t => simp only [et] at hc; cases hc
          | ok k τ3 =>
            intro F3 H3 g3 s3
            have hnA : ¬ (M.but A).m A := fun z => z.2 rfl
            have G3 : Grow M F1 H1 F3 H3 := gg.trans ((n2.grow (M := M)).trans g3.unbut)
            have hA2 : H2 A = some (.lst accV) := n2.keep _ _ hA'
            have hA3 : H3 A = some (.lst accV) := g3.keep A _ hA2 hnA
            have hf2 : F2 A = none := n2.free A hf' (by rw [hA']; exact fun z => nomatch z)
            have hf3 : F3 A = none := g3.free A hf2 (by rw [hA2]; exact fun z => nomatch z) hnA
            have ra3 : RepL K F3 accV acc := ra.mono (n2.frz.trans g3.frz)
            have sf3 : Sub F1 F3 := sf.trans (n2.frz.trans g3.frz)
            cases k with
            | false =>
              simp only [et] at hc
              show (if false = true then _ else _)
              rw [if_neg Bool.false_ne_true]
              exact ⟨F3, wipeT τ3 vs, acc, accV, sf3, G3, by rw [← wp2]; exact s3.wiped vs, hA3, hf3, ra3, fun i sl a b => wipeT_get a b, hc⟩
            | true =>
              show (if true = true then _ else _)
              rw [if_pos rfl]
              cases e1 : fi1 τ3 with
              | stuck => simp only [et, e1] at hc; cases hc
              | exc x t => simp only [et, e1] at hc; cases hc
              | ok ds1 τ4 =>
                simp only [et, e1] at hc
                cases e2 : compL (turnC g1 tt1 el vs1) ds1 (wipeT τ4 vs1) acc with
                | stuck => simp only [e2] at hc; cases hc
                | exc x t => simp only [e2] at hc; cases hc
                | ok acc' τ5 =>
                  simp only [e2] at hc
                  refine ⟨M.but A, F3, τ3, s3, ?_⟩
                  rw [e1]
                  intro F4 H4 g4 s4 J1 cf1
                  have hA4 : H4 A = some (.lst accV) := g4.keep A _ hA3 hnA
                  have hf4 : F4 A = none := g4.free A hf3 (by rw [hA3]; exact fun z => nomatch z) hnA
                  have G4 : Grow M F1 H1 F4 H4 := G3.trans g4.unbut
                  exact in_loop cf1 (s4.wiped vs1) (fun i sl a b => wipeT_get a b) (s1.up A hA) hA4 hf4 (ra3.mono g4.frz) e2 fun F5 H5 accV5 sf5 g5 s5 hw5 hA5 hf5 r5 =>
                    ⟨F5, wipeT τ5 vs, acc', accV5, sf3.trans (g4.frz.trans sf5), G4.trans g5, by rw [← wp2]; exact (s5.unwipe hw5).wiped vs, hA5, hf5, r5, fun i sl a b => wipeT_get a b, hc⟩
      · have e : i = ds.length := by omega
        subst e
        rw [List.drop_length] at hc
        cases hc
        refine .inl ⟨cf.stop H' (sf.trans s'.sub), ?_⟩
        have s3 := s'.unbut.unwipe hw
        refine p1 F' H' gg (SRel.rest s1 sf s3 vs) _ ⟨A, _, rfl, hA', hf', s1.up A hA, .l ra, fun i sl e m z => ?_⟩
        obtain ⟨e', hn⟩ := rest_mut vs e m
        obtain ⟨o, hm⟩ := Option.ne_none_iff_exists'.mp m
        obtain ⟨b, w, h1, h2, h3, h4, h5⟩ := s'.own i sl o e' hm
        have h1' : σ[i]? = some (some (V.ref b)) := (wipe_some h1).1
        rw [h1'] at z
        cases z
        exact h4.2 rfl
theorem jx_lc2 {fi fi1 : T → Rs (List D)} {g g1 : D → T → Option T} {tt tt1 : T → Rs Bool} {el : T → Rs D} {vs1 : List Nat} (hc : X.calm = true) (hN : X.N.Nodup) (hi : JI px W X tg iter fi) (ok : BlkOk X.N X.env.scope scope own) (hv : ∀ i ∈ vs1, i ∈ own.map (·.2))
    (hg : ∀ (s : Shared) (H : Hp) (C : Addr) (cl : List (Str × Addr)) (fp : List Addr), JG (X.blk s H scope (compEnvC scope cl C X.env) fp) tg (own.map (·.2)) g)
    (ht : ∀ (s : Shared) (H : Hp) (C : Addr) (cl : List (Str × Addr)) (fp : List Addr), JTs px W0 (X.blk s H scope (compEnvC scope cl C X.env) fp) ifs tt)
    (hi1 : ∀ (s : Shared) (H : Hp) (C : Addr) (cl : List (Str × Addr)) (fp : List Addr), JI px W0 (X.blk s H scope (compEnvC scope cl C X.env) fp) tg1 iter1 fi1)
    (hg1 : ∀ (s : Shared) (H : Hp) (C : Addr) (cl : List (Str × Addr)) (fp : List Addr), JG (X.blk s H scope (compEnvC scope cl C X.env) fp) tg1 vs1 g1)
    (ht1 : ∀ (s : Shared) (H : Hp) (C : Addr) (cl : List (Str × Addr)) (fp : List Addr), JTs px W0 (X.blk s H scope (compEnvC scope cl C X.env) fp) ifs1 tt1)
    (he : ∀ (s : Shared) (H : Hp) (C : Addr) (cl : List (Str × Addr)) (fp : List Addr), JE px W0 (X.blk s H scope (compEnvC scope cl C X.env) fp) elt el) (hs : ∀ x, foldedSetIterable iter X.env x = pure x) (hs1 : ∀ env x, foldedSetIterable iter1 env x = pure x) :
    JX px W X (.ListComp elt [⟨tg, iter, ifs, 0⟩, ⟨tg1, iter1, ifs1, 0⟩] scope pos) (sLc2 fi g tt fi1 g1 tt1 el (own.map (·.2)) vs1) :=
  PE.imp (pe_lc2 (g := rdG X.K (List.map (fun x : Str × Nat => x.2) own) g) (tt := rdT X.K px W0 tt) (wi1 := rdI X.K px W0 fi1) (g1 := rdG X.K vs1 g1) (tt1 := rdT X.K px W0 tt1) (te := rdE X.K px W0 el) hc hN hi ok hv hg ht hi1 hg1 ht1 he hs hs1) fun _ _ _ h => rd_lc2 h
end
end U
end

section
set_option Elab.async false
set_option linter.all false
set_option maxRecDepth 100000
namespace U
open PySem PySem.Spec PyProof.Rows L2
/-! dict comprehensions, comprehensions of two clauses by name -/
def sDcB (it : T → Rs (List D)) (tc : D → T → Rs (Option (D × D))) (vs : List Nat) : T → Rs PR := fun τ => (it τ).bind fun ds τ1 => (compK tc ds (wipeT τ1 vs) []).bind fun acc τ2 => .ok (.o (.d false (acc.map (·.1)) (acc.map (·.2)))) (restT τ1 vs τ2)
def sLc2B (it : T → Rs (List D)) (tc : D → T → List D → Rs (List D)) (vs : List Nat) : T → Rs PR := fun τ => (it τ).bind fun ds τ1 => (compL2 tc ds (wipeT τ1 vs) []).bind fun acc τ2 => .ok (.o (.l acc)) (restT τ1 vs τ2)
theorem evl7 : (∀ it tc vs τ, sDcB it tc vs τ = (it τ).bind fun ds τ1 => (compK tc ds (wipeT τ1 vs) []).bind fun acc τ2 => .ok (.o (.d false (acc.map (·.1)) (acc.map (·.2)))) (restT τ1 vs τ2)) ∧
    (∀ it tc vs τ, sLc2B it tc vs τ = (it τ).bind fun ds τ1 => (compL2 tc ds (wipeT τ1 vs) []).bind fun acc τ2 => .ok (.o (.l acc)) (restT τ1 vs τ2)) ∧
    (∀ g tt ek ev vs d τ, turnK g tt ek ev vs d τ = match g d τ with
      | none => .stuck
      | some τ1 => match tt τ1 with
        | .ok false τ2 => .ok none (wipeT τ2 vs)
        | .ok true τ2 => (match ek τ2 with
          | .ok k τ3 => (match ev τ3 with
            | .ok z τ4 => .ok (some (k, z)) (wipeT τ4 vs)
            | _ => .stuck)
          | _ => .stuck)
        | _ => .stuck) ∧
    (∀ g tt fi f1 vs vs1 d τ acc, turnC2 g tt fi f1 vs vs1 d τ acc = match g d τ with
      | none => .stuck
      | some τ1 => match tt τ1 with
        | .ok false τ2 => .ok acc (wipeT τ2 vs)
        | .ok true τ2 => (match fi τ2 with
          | .ok ds τ3 => (match compL f1 ds (wipeT τ3 vs1) acc with
            | .ok acc' τ4 => .ok acc' (wipeT τ4 vs)
            | _ => .stuck)
          | _ => .stuck)
        | _ => .stuck) := ⟨fun _ _ _ _ => rfl, fun _ _ _ _ => rfl, fun _ _ _ _ _ _ _ => rfl, fun _ _ _ _ _ _ _ _ _ => rfl⟩
end U
end

section
set_option Elab.async false
set_option linter.all false
set_option maxRecDepth 100000
namespace U
open PySem PySem.Spec PyProof.Rows L2
/-! tuples known to be plain, dict(..) of them -/
section
variable {K : PySem.W.Frag} {F H : Hp} {Q : VK}
theorem PW.ptp {ds : List D} {vs : List V} (s : Sub F H) (p : PW K F H (.d (.ptp ds)) Q) (r : RepL K F vs ds) : ∀ l o, H l = none → o.dict = none → Q (.ref l) (upd H l (.frz o (.tup vs))) :=
  fun l o hl hd => p (.ref l) _ _ (.lay s hl) (.ptp upd_same hd (r.mono (Sub.upd (none_of_sub s hl))))
end
def gTupleP : D → Option PR
  | .lst ds => some (.d (.ptp ds))
  | _ => none
def sTupP (g : T → Rs (List D)) : T → Rs PR := fun τ => (g τ).bind fun ds τ1 => if ds.length ≤ lim then .ok (.d (.ptp ds)) τ1 else .stuck
/-- the pairs that dict() takes -/
def pairsD : List D → Option (List (D × D))
  | [] => some []
  | .tup [k, v] :: ds => if k.key.isSome then (pairsD ds).map ((k, v) :: ·) else none
  | _ => none
def mergeP (ps : List (D × D)) : List (D × D) := ps.foldl (fun acc p => putP acc p.1 p.2) []
def gDict : D → Option PR
  | .ptp ds => if ds.length ≤ lim then (pairsD ds).map fun ps => .o (.d false ((mergeP ps).map (·.1)) ((mergeP ps).map (·.2))) else none
  | .lst ds => (pairsD ds).map fun ps => .o (.d false ((mergeP ps).map (·.1)) ((mergeP ps).map (·.2)))
  | _ => none
theorem pairsD_ind {ds : List D} {ps : List (D × D)} (h : pairsD ds = some ps) : (ds = [] ∧ ps = []) ∨ ∃ k v ds' ps' kk, ds = .tup [k, v] :: ds' ∧ ps = (k, v) :: ps' ∧ k.key = some kk ∧ pairsD ds' = some ps' := by
  match ds, h with
  | [], h => cases h; exact .inl ⟨rfl, rfl⟩
  | .tup [k, v] :: ds, h =>
    unfold pairsD at h
    cases e : k.key with
    | none => rw [e] at h; cases h
    | some kk =>
      rw [e] at h
      have h : (pairsD ds).map ((k, v) :: ·) = some ps := h
      obtain ⟨ps', e1, rfl⟩ := map_some h
      exact .inr ⟨k, v, ds, ps', kk, rfl, rfl, e, e1⟩
section
variable {K : PySem.W.Frag} {F H : Hp}
theorem RepK.merge : ∀ {more : List (Key × V)} {qs : List (D × D)} {kvs : List (Key × V)} {ps : List (D × D)}, RepK K F more qs → RepK K F kvs ps → RepK K F (mergeK kvs more) (qs.foldl (fun acc p => putP acc p.1 p.2) ps)
  | _, _, _, _, .nil, h => h
  | _, _, _, _, .cons hk rv q, h => by
    have z := RepK.merge q (h.put hk rv)
    exact z
/-- the pairs, at the heap -/
theorem pairs_rep (s : Sub F H) : ∀ {ds : List D} {ps : List (D × D)} {vs : List V}, pairsD ds = some ps → RepL K F vs ds → ∃ (as : List Addr) (kvs : List (Key × V)), vs = as.map V.ref ∧ RepK K F kvs ps ∧ Paired (fun p kv => SqT K H p [kV kv.1, kv.2]) as kvs
  | ds, ps, vs, h, r => by
    rcases pairsD_ind h with ⟨rfl, rfl⟩ | ⟨k, v, ds', ps', kk, rfl, rfl, ek, e⟩
    · cases r; exact ⟨[], [], rfl, .nil, .nil⟩
    · cases r with
      | cons h1 r1 =>
        obtain ⟨as, kvs, e1, e2, e3⟩ := pairs_rep s e r1
        cases h1 with
        | tup q r2 =>
          cases r2 with
          | cons rk r3 =>
            cases r3 with
            | cons rv r4 =>
              cases r4
              have ev := key_rep ek rk
              subst ev
              subst e1
              exact ⟨_ :: as, (kk, _) :: kvs, rfl, .cons ek rv e2, .cons (.of (s _ _ q)) e3⟩
  termination_by ds => ds.length
  decreasing_by all_goals (subst_vars; simp)
end
theorem choose_list {α β : Type} : ∀ (l : List α) (P : Nat → α → β → Prop), (∀ j a, l[j]? = some a → ∃ b, P j a b) → ∃ bs : List β, bs.length = l.length ∧ ∀ j a, l[j]? = some a → ∃ b, bs[j]? = some b ∧ P j a b
  | [], P, h => ⟨[], rfl, fun j a e => by simp at e⟩
  | a :: l, P, h => by
    obtain ⟨b, hb⟩ := h 0 a rfl
    obtain ⟨bs, hl, hbs⟩ := choose_list l (fun j => P (j + 1)) fun j a e => h (j + 1) a (by simpa using e)
    refine ⟨b :: bs, by rw [List.length_cons, List.length_cons, hl], fun j a' e => ?_⟩
    cases j with
    | zero => cases e; exact ⟨b, rfl, hb⟩
    | succ j => obtain ⟨b', e1, e2⟩ := hbs j a' (by simpa using e); exact ⟨b', by simpa using e1, e2⟩
section
variable {X : Cx}
theorem objOk_frz {pins : List (Addr × Obj)} {σ : St} {H : Hp} {s : Shared} {vs : List V} {its : List Value} (r : Vals vs its) (hz : vs.length ≤ sizeLine) (h' : Heap) :
    ObjOk X.prog X.w (upd H h'.objs.size (.frz { cls := .type "tuple", data := .seq its.toArray } (.tup vs))) (h'.push { cls := .type "tuple", data := .seq its.toArray }) h'.objs.size (.frz { cls := .type "tuple", data := .seq its.toArray } (.tup vs)) :=
  ⟨Heap.get?_push_size _ rfl, hz, its, r, IsTup.new _ _⟩
theorem cr_tupleP : CallR X (.type "tuple") (rC X.K (g1 gTupleP)) := by
  intro pins s σ H xs us Q I rs ⟨F, ds, r, sb, n, hg, pw⟩
  obtain ⟨d, rfl, hg⟩ := g1_some hg
  obtain ⟨x, rfl, n1⟩ := n.one
  cases d with
  | lst ds =>
    cases hg
    obtain ⟨a, vs, rfl, ha, r1⟩ := n1.lst sb
    obtain ⟨u, rfl, rx⟩ := vals1 rs
    cases rx
    obtain ⟨its, r', pl, hz⟩ := I.list (xs := vs) (.of ha)
    have hlen := r'.length
    refine call_tuple_list pl.isList (fun h' kp => ?_) (by simp only [List.size_toArray] <;> omega)
    have I1 : Inv X pins σ H { s with heap := h' } := I.kept (t' := s.toks) kp
    have I2 := I1.laid (t' := s.toks) (h' := h'.push { cls := .type "tuple", data := .seq its.toArray }) (fun b o e => Heap.get?_push_of_some _ e) (Nat.le_refl _) (objOk_frz (X := X) (pins := pins) (σ := σ) (s := s) r' hz h')
    exact ⟨.ref h'.objs.size, _, I2, rfl, pw.ptp sb r1 _ _ (I1.hok.fresh (Nat.le_refl _)) rfl⟩
  | _ => cases hg
theorem cr_dictP (hcalm : X.calm = true) : CallR X (.type "dict") (rC X.K (g1 gDict)) := by
  intro pins s σ H xs us Q I rs ⟨F, ds, r, sb, n, hg, pw⟩
  obtain ⟨d, rfl, hg⟩ := g1_some hg
  obtain ⟨x, rfl, n1⟩ := n.one
  cases d with
  | ptp ds =>
    have hg : (if ds.length ≤ lim then (pairsD ds).map fun ps => PR.o (.d false ((mergeP ps).map (·.1)) ((mergeP ps).map (·.2))) else none) = some r := hg
    obtain ⟨c, hg⟩ : ds.length ≤ lim ∧ (pairsD ds).map (fun ps => PR.o (.d false ((mergeP ps).map (·.1)) ((mergeP ps).map (·.2)))) = some r := by
      by_cases c : ds.length ≤ lim
      · rw [if_pos c] at hg; exact ⟨c, hg⟩
      · rw [if_neg c] at hg; cases hg
    obtain ⟨ps, ep, rfl⟩ := map_some hg
    obtain ⟨a, o, vs, rfl, ha, hd, r1, _⟩ := n1.ptp sb
    obtain ⟨u, rfl, rx⟩ := vals1 rs
    cases rx
    obtain ⟨as, kvs, rfl, rk, hp⟩ := pairs_rep (H := H) sb ep r1
    obtain ⟨hgo, hz, its, rv, oo, hoo, hc, m, hdat⟩ := (show ObjOk X.prog X.w H s.heap a (.frz o (.tup (as.map V.ref))) from I.hok a _ ha)
    have eo : oo = o := Option.some.inj (hoo.symm.trans hgo)
    subst eo
    have ei := refs_at rv
    subst ei
    obtain ⟨prs, rel, hl, hpr⟩ := pairs_of I hp
    rw [List.length_map] at hz
    obtain ⟨bs, hbl, hbs⟩ := choose_list (β := Addr × Value) prs (fun j q b => as[j]? = some b.1 ∧ IsTup s.heap b.1 #[b.2, q.2] ∧ keyIs q.1 b.2 = true) fun j q e => by
      obtain ⟨b, u, h1, h2, h3⟩ := hpr j q e
      exact ⟨(b, u), h1, h2, h3⟩
    have hpl : ((bs.zip prs).map fun z => (z.1.2, z.2.2)).length = prs.length := by simp [hbl]
    have hat : ∀ (j : Nat) (k v : Value), ((bs.zip prs).map fun z => (z.1.2, z.2.2))[j]? = some (k, v) → ∃ b kk, bs[j]? = some (b, k) ∧ prs[j]? = some (kk, v) ∧ as[j]? = some b ∧ IsTup s.heap b #[k, v] ∧ keyIs kk k = true := fun j k v e => by
      rw [List.getElem?_map] at e
      obtain ⟨z, e1, e2⟩ := map_some e
      obtain ⟨⟨b, k'⟩, kk, v'⟩ := z
      cases e2
      obtain ⟨e3, e4⟩ := List.getElem?_zip_eq_some.mp e1
      obtain ⟨b', e5, h1, h2, h3⟩ := hbs j _ e4
      have e6 := Option.some.inj (e5.symm.trans e3)
      subst e6
      exact ⟨b, kk, e3, e4, h1, h2, h3⟩
    refine PySem.call_dict_pairs (knd := mixKind X.prog X.w) (kvs := prs) (PairArg.tuple a (as.map Value.ref).toArray (fun j => as.getD j 0) ((bs.zip prs).map fun z => (z.1.2, z.2.2))) (I.ok.hd hcalm) ⟨⟨oo, m, hgo, hc, hd, hdat⟩, ⟨by simp [hbl, hl], fun j k v e => ?_⟩⟩ ⟨hpl.symm, fun i key v e => ?_⟩ (by rw [hpl, hl]; exact hz) fun h' tk hd' kp => ?_
    · obtain ⟨b, kk, _, _, h1, h2, _⟩ := hat j k v e
      have e7 : as.getD j 0 = b := by simp [h1]
      show (List.map Value.ref as).toArray[j]? = some (Value.ref (as.getD j 0)) ∧ PairAt s.heap (as.getD j 0) k v
      rw [e7]
      exact ⟨by simp [h1], .inl h2⟩
    · obtain ⟨b, kk, _, h0, h1, h2, h3⟩ := hat i key v e
      exact ⟨kk, h0, h3⟩
    · have hm : (s.heap.objs.size == sysModules) = false := beq_eq_false_iff_ne.mpr (Nat.ne_of_gt I.big)
      have hlen : (mergeK [] kvs).length ≤ sizeLine := by
        refine Nat.le_trans (length_mergeK kvs []) ?_
        rw [List.length_nil, Nat.zero_add, rel.length, hl]
        exact hz
      exact ⟨.ref s.heap.objs.size, upd H s.heap.objs.size (.dK (mergeK [] kvs)), I.laid (t' := tk) (fun b o e => kp b o (by simp) e) (Nat.le_refl _) (show ObjOk X.prog X.w _ _ _ (.dK (mergeK [] kvs)) from ⟨hlen, hm, merged [] prs, KV.merge rel .nil, hd'⟩), rfl, pw s.heap.objs.size (.dK (mergeK [] kvs)) F H (.refl sb) (I.hok.fresh (Nat.le_refl _)) ((RepK.merge rk .nil).own)⟩
  | lst ds =>
    obtain ⟨ps, ep, rfl⟩ := map_some (show (pairsD ds).map (fun ps => PR.o (.d false ((mergeP ps).map (·.1)) ((mergeP ps).map (·.2)))) = some r from hg)
    obtain ⟨a, vs, rfl, ha, r1⟩ := n1.lst sb
    obtain ⟨as, kvs, rfl, rk, hp⟩ := pairs_rep (H := H) sb ep r1
    exact call_dictP hcalm pins s σ H _ us Q I rs ⟨a, as, kvs, rfl, .of ha, hp, fun p hp' => pw p (.dK (mergeK [] kvs)) F H (.refl sb) hp' ((RepK.merge rk .nil).own)⟩
  | _ => cases hg
variable {px : PX} {W : WX} {es : List Expr} {pos : Pos}
/-- the display of a tuple, its object told -/
theorem pe_tupP {n : Nat} {t : TA} (h : PA X es t) : PE X (.Tuple es n pos) (fun σ H Q => t σ H fun vs H1 => vs.length ≤ sizeLine ∧ ∀ p o, H1 p = none → o.dict = none → Q (.ref p) (upd H1 p (.frz o (.tup vs)))) := by
  refine ⟨fun pins s σ H Q I hq => ?_⟩
  refine wpAny_Tuple_spliced (thn (h.run pos pins s σ H _ I hq) fun us s1 ⟨xs, H1, I1, r, z, q⟩ => ⟨by rw [← r.length]; exact z, ?_⟩)
  have hf : H1 s1.heap.objs.size = none := I1.hok.fresh (Nat.le_refl _)
  have I2 := I1.laid (t' := s1.toks) (h' := s1.heap.push { cls := .type "tuple", data := .seq us.toArray }) (fun b u e => Heap.get?_push_of_some _ e) (Nat.le_refl _) (objOk_frz (X := X) (pins := pins) (σ := σ) (s := s1) r z s1.heap)
  exact ⟨.ref s1.heap.objs.size, _, I2, rfl, q _ _ hf rfl⟩
theorem jx_tupP {n : Nat} {g : T → Rs (List D)} (h : JA px W X es g) : JX px W X (.Tuple es n pos) (sTupP g) :=
  PE.imp (pe_tupP h) fun σ H Q ⟨M, F, τ, s, p⟩ => rdA_bind s p fun ds τ1 F1 H1 vs g1 s1 rvs p1 => by
    by_cases c : ds.length ≤ lim
    · rw [if_pos c] at p1
      exact ⟨by rw [rvs.length]; exact lim_ok c, (p1.pw s1).ptp s1.sub rvs⟩
    · rw [if_neg c] at p1; exact p1.elim
end
end U
end

section
set_option Elab.async false
set_option linter.all false
set_option maxRecDepth 100000
namespace U
open PySem PySem.Spec PyProof.Rows L2
section
variable {px : PX} {W : WX} {X : Cx} {pos : Pos} {tg iter tg1 iter1 elt : Expr} {ifs ifs1 : List Expr} {scope : Scope} {own : List (Str × Nat)}
/-- name = [.. for .. for ..] on one line -/
theorem js_setLc2 {i : Nat} {y : Str} {py spos : Pos} {fi fi1 : T → Rs (List D)} {g g1 : D → T → Option T} {tt tt1 : T → Rs Bool} {el : T → Rs D} {vs1 : List Nat} (hc : X.calm = true) (hN : X.N.Nodup) (hy : X.N[i]? = some y) (hyl : X.env.scope.names.lookup y = some .local)
    (hsw : swapsWith (.ListComp elt [⟨tg, iter, ifs, 0⟩, ⟨tg1, iter1, ifs1, 0⟩] scope pos) (some (.Name y py)) spos.line X.env = pure true) (hi : JI px W X tg iter fi) (ok : BlkOk X.N X.env.scope scope own) (hv : ∀ i ∈ vs1, i ∈ own.map (·.2))
    (hg : ∀ (s : Shared) (H : Hp) (C : Addr) (cl : List (Str × Addr)) (fp : List Addr), JG (X.blk s H scope (compEnvC scope cl C X.env) fp) tg (own.map (·.2)) g)
    (ht : ∀ (s : Shared) (H : Hp) (C : Addr) (cl : List (Str × Addr)) (fp : List Addr), JTs px W0 (X.blk s H scope (compEnvC scope cl C X.env) fp) ifs tt)
    (hi1 : ∀ (s : Shared) (H : Hp) (C : Addr) (cl : List (Str × Addr)) (fp : List Addr), JI px W0 (X.blk s H scope (compEnvC scope cl C X.env) fp) tg1 iter1 fi1)
    (hg1 : ∀ (s : Shared) (H : Hp) (C : Addr) (cl : List (Str × Addr)) (fp : List Addr), JG (X.blk s H scope (compEnvC scope cl C X.env) fp) tg1 vs1 g1)
    (ht1 : ∀ (s : Shared) (H : Hp) (C : Addr) (cl : List (Str × Addr)) (fp : List Addr), JTs px W0 (X.blk s H scope (compEnvC scope cl C X.env) fp) ifs1 tt1)
    (he : ∀ (s : Shared) (H : Hp) (C : Addr) (cl : List (Str × Addr)) (fp : List Addr), JE px W0 (X.blk s H scope (compEnvC scope cl C X.env) fp) elt el) (hs : ∀ x, foldedSetIterable iter X.env x = pure x) (hs1 : ∀ env x, foldedSetIterable iter1 env x = pure x) :
    JS px W X (.Assign [.Name y py] (.ListComp elt [⟨tg, iter, ifs, 0⟩, ⟨tg1, iter1, ifs1, 0⟩] scope pos) spos) (sSet i (sLc2 fi g tt fi1 g1 tt1 el (own.map (·.2)) vs1)) :=
  js_asg (ps_setLc2 (g := rdG X.K (List.map (fun x : Str × Nat => x.2) own) g) (tt := rdT X.K px W0 tt) (wi1 := rdI X.K px W0 fi1) (g1 := rdG X.K vs1 g1) (tt1 := rdT X.K px W0 tt1) (te := rdE X.K px W0 el) hc hN hy hyl hsw hi ok hv hg ht hi1 hg1 ht1 he hs hs1) fun _ _ _ h => rd_lc2 h
end
end U
end

section
set_option Elab.async false
set_option linter.all false
set_option maxRecDepth 100000
set_option maxHeartbeats 2000000
namespace U
open PySem PySem.Spec PyProof.Rows L2
/-! ### try .. except, the exception being kept as a value -/
structure Landed (X : Cx) (pins : List (Addr × Obj)) (σ : St) (H : Hp) (a : Addr) (B : Heap) (sI : Shared) (cls : Value) (d : Option Addr) (s : Shared) : Prop where
  inv : Inv X pins σ H sI
  nb : ∀ b o, sI.heap.get? b = some o → b ∉ frs X.stack → B.get? b = some o
  up : sI.heap.UpToSlots s.heap
  fl : PySem.HandSPX.FlyingZ B (X.env :: X.outer) a (Zc cls d) s.heap
  na : H a = none
  os : s.os = sI.os
  ag : AllBare s.gens
section
variable {X : Cx} {pins : List (Addr × Obj)} {σ : St} {H : Hp} {a C : Addr} {B : Heap} {sI s : Shared} {cls : Value} {d : Option Addr}
theorem Landed.now (L : Landed X pins σ H a B sI cls d s) : Inv X pins σ H s := L.inv.landed L.nb L.fl.1 L.up L.os L.ag
theorem Landed.notFr (L : Landed X pins σ H a B sI cls d s) : a ∉ frs (X.env :: X.outer) := fun hm => by
  obtain ⟨oe, vs, he, _, hd⟩ := L.fl.there
  obtain ⟨_, o', e', hnf⟩ := L.fl.2.2.1.mem hm
  rw [he] at e'
  cases e'
  exact hnf _ hd
theorem Landed.new (L : Landed X pins σ H a B sI cls d s) (hs : X.stack = X.env :: X.outer) : sI.heap.get? a = none := by
  cases q : sI.heap.get? a with
  | none => rfl
  | some o =>
    have z := L.nb a o q (by rw [hs]; exact L.notFr)
    rw [L.fl.2.1] at z
    cases z
theorem inv_bare (I : Inv X pins σ H s) (a : Addr) : Inv (X.suite a (X.pn ++ pins)) [] σ H s :=
  ⟨I.ok.suite _ _, I.os, I.bare, I.base, I.loc, I.cell, I.free, I.freeC, fun p hp => I.pin p (by simpa using hp), I.hok, I.len⟩
theorem inv_back {pn' : List (Addr × Obj)} (I : Inv (X.suite a (X.pn ++ pins)) pn' σ H s) (ok : X.Ok) : Inv X pins σ H s :=
  ⟨ok, I.os, I.bare, I.base, I.loc, I.cell, I.free, I.freeC, fun p hp => I.pin p (List.mem_append_left _ hp), I.hok, I.len⟩
theorem xo_ok {P : Program} {w : World} {h : Heap} {oe : Obj} {vs : Array Value} (he : h.get? a = some oe) (hz : Zc (.ref C) d oe) (hd : oe.data = .fields vs) : ObjOk P w H h a (xo a C d) :=
  ⟨⟨oe, vs, he, hz, hd⟩, ⟨oe, he⟩, fun h1 h2 ⟨o1, v1, q1, q2, q3⟩ k => ⟨o1, v1, k _ q1, q2, q3⟩⟩
theorem xo_at {P : Program} {w : World} {h : Heap} (hok : HOk P w H h) (e : H a = some (xo a C d)) : ∃ oe vs, h.get? a = some oe ∧ Zc (.ref C) d oe ∧ oe.data = .fields vs := by
  have x : ObjOk P w H h a (.ext _) := hok a _ e
  exact x.1
/-- the caught exception is tracked from now on -/
theorem Landed.suite (L : Landed X pins σ H a B sI (.ref C) d s) (hs : X.stack = X.env :: X.outer) (hf : X.env.frame = some X.env.locals) : Inv (X.suite a (X.pn ++ pins)) [] σ (upd H a (xo a C d)) s := by
  have I := L.now
  have n0 := L.new hs
  obtain ⟨oe, vs, he, hz, hd⟩ := L.fl.there
  have nfr := L.notFr
  have nL : X.env.locals ≠ a := fun z => nfr (List.mem_filterMap.mpr ⟨X.env, List.mem_cons_self, by rw [hf, z]⟩)
  have nS : ∀ b o, X.s_0.heap.get? b = some o → b ∉ X.ex → b ≠ a := fun b o e hx z => by
    obtain ⟨o', e'⟩ := L.inv.base.there b o e hx
    rw [z, n0] at e'
    cases e'
  have nH : ∀ b o, H b = some o → b ≠ a := fun b o e z => by rw [z, L.na] at e; cases e
  refine ⟨I.ok.suite _ _, I.os, I.bare, ⟨I.base.keep, I.base.slot, fun b o e n hx => ?_, I.base.there, fun b xs e => ?_, fun b o u e => ?_, fun b ps e => ?_⟩, I.loc, I.cell, ?_, fun y c e => ?_, fun p hp => ?_, fun b o e => ?_, I.len⟩
  · rw [upd_ne (nS b o e hx)]
    exact I.base.free b o e n hx
  · have e' := I.base.tups b xs e
    rw [upd_ne (nH b _ e')]
    exact e'
  · have e' := I.base.frzs b o u e
    rw [upd_ne (nH b _ e')]
    exact e'
  · obtain ⟨m, e'⟩ := I.base.tbls b ps e
    exact ⟨m, by rw [upd_ne (nH b _ e')]; exact e'⟩
  · rw [upd_ne nL]
    exact I.free
  · obtain ⟨v, z⟩ := I.cell y c e
    have ne : c ≠ a := fun q => by
      subst q
      obtain ⟨o1, h1, h2⟩ := z
      rw [he] at h1
      cases h1
      rw [hd] at h2
      cases h2
    rw [upd_ne ne]
    exact I.freeC y c e
  · have hp' : p ∈ X.pn ++ pins := by simpa using hp
    obtain ⟨q1, q2, q3, q4, q5⟩ := I.pin p hp'
    have ne : p.1 ≠ a := fun z => by
      have := (L.inv.pin p hp').1
      rw [z, n0] at this
      cases this
    exact ⟨q1, by rw [upd_ne ne]; exact q2, q3, q4, q5⟩
  · by_cases hb : b = a
    · subst hb
      rw [upd_same] at e
      cases e
      exact xo_ok he hz hd
    · rw [upd_ne hb] at e
      exact (I.hok b o e).stay (fun c u _ q => q) (fun c q => by rw [upd_ne (nH c _ q)]; exact q) fun c xs q => by rw [upd_ne (nH c _ q)]; exact q
end
/-- the clauses: what is wished of an exception that has landed -/
def PH (X : Cx) (hs : List ExceptHandler) (t : Ends → WX) : Prop := ∀ (pins : List (Addr × Obj)) (σ : St) (H : Hp) (a : Addr) (B : Heap) (sI : Shared) (cls : Value) (d : Option Addr) (s : Shared) (D : Ends),
  Landed X pins σ H a B sI cls d s → t D cls d σ H → wpAny (model X.prog X.w) X.A (handleBy (.ref a) X.env hs) (SP X pins D) X.xe s
/-- slot i is the name's -/
def wKp (K : PySem.W.Frag) (c : Value) (i : Nat) (ts : TS) (tr : Ends → WX) (D : Ends) : WX := fun cls d σ H =>
  ∃ b, PySem.W.exmOne K cls c = some b ∧
    (b = true → ∃ C, cls = .ref C ∧ ∀ a, H a = none → ts { nx := fun σ' H' => D.nx (σ'.set i none) H', rt := D.rt, bk := fun σ' H' => D.bk (σ'.set i none) H', ct := fun σ' H' => D.ct (σ'.set i none) H' } (σ.set i (some (.ref a))) (upd H a (xo a C d))) ∧
    (b = false → tr D cls d σ H)
section
variable {X : Cx} {x n : Str} {c : Value} {i : Nat} {body su : List Stmt} {b0 : Stmt} {np pos pos' : Pos} {rest : List ExceptHandler} {h0 : ExceptHandler} {tb : WX → TS} {ts : TS} {tr th : Ends → WX} {Wout : WX}
theorem ph_nil (hs : X.stack = X.env :: X.outer) (hf : X.env.frame = some X.env.locals) (tk : Takes X Wout) : PH X [] (fun _ => Wout) := by
  intro pins σ H a B sI cls d s D L hw
  refine wpAny_handleBy_nil ?_
  obtain ⟨k1, k2, k3, oe, vs, T, oT, ts', he, hz, hd, h1, hr⟩ := id L.fl
  unfold PySem.passOn
  refine wpAny_bind (wpAny_field he hd h1 ?_)
  rw [if_neg (show ¬ ((Value.ref T == Value.none) = true) from by simp)]
  have fin : wpAny (model X.prog X.w) X.A (setFlight (.ref a) X.env.frame)
      (fun _ s4 => wpAny (model X.prog X.w) X.A (throw (.ref a) : Sem Flow) (SP X pins D) X.xe s4) X.xe s := by
    rw [hf]
    refine PySem.HandSPX.setFlight_upZ L.fl fun h4 hh4 up4 => wpAny_throw (tk _ _ ?_)
    exact ⟨a, B, sI, pins, σ, H, cls, d, rfl, L.inv, L.nb, L.up.trans up4, .inr (.inr (by rw [hs]; exact hh4)), L.na, L.os, L.ag, hw⟩
  first
    | exact wpAny_bind (wpAny_pure (wpAny_bind fin))
    | exact wpAny_bind fin
theorem ph_as (hs : X.stack = X.env :: X.outer) (hf : X.env.frame = some X.env.locals) (hN : X.N.Nodup) (hi : X.N[i]? = some n) (hln : X.env.kindOf n = some .local) (hc : Names X x c)
    (hsu : ∀ (a : Addr) (pn : List (Addr × Obj)), PSs (X.suite a pn) (b0 :: su) ts) (hr : PH X rest tr) :
    PH X (.ExceptHandler (some (.Name x np)) (some n) (b0 :: su) pos' :: rest) (wKp X.K c i ts tr) := by
  intro pins σ H a B sI cls d s D L ⟨b, hb, hyes, hno⟩
  have ok := L.inv.ok
  have I := L.now
  obtain ⟨oe, vs, he, hz, hd⟩ := L.fl.there
  refine wpAny_handleBy_cons (codeAny_handlers_test ?_) (by intro q; cases q)
  have LT : PySem.W.Looks (model X.prog X.w) s.heap (typeOf (.ref a)) cls :=
    fun A Q E s k q => wpAny_typeOf_ref (k _ _ he) (by rw [hz.1]; exact q)
  have LM := PySem.W.exm_one (M := model X.prog X.w) I.kIn LT hb
  have S3 := inv_bare I a
  have test : ∀ {Q : Value → Shared → Prop} {E : Value → Shared → Prop}, Q c s → wpAny (model X.prog X.w) (X.A.mark (some (.ref a))) (eval (.Name x np) X.env) Q E s := fun {Q E} q => by
    obtain ⟨hg, hdbg, hm | ⟨hm, hv, hnn⟩⟩ := hc
    · exact ld_glob (X := X.suite a (X.pn ++ pins)) S3 hg hm q hdbg
    · exact ld_blt (X := X.suite a (X.pn ++ pins)) S3 hg hm hv q hnn hdbg
  refine test (LM.here ?_)
  cases b with
  | true =>
    refine codeAny_handlers_suite_as ?_
    refine PySem.HandSPX.lands_againZ L.fl fun h4 fl4 up4 => ?_
    obtain ⟨C, ec, hyes2⟩ := hyes rfl
    subst ec
    have L4 : Landed X pins σ H a B sI (.ref C) d { s with heap := h4 } := ⟨L.inv, L.nb, L.up.trans up4, fl4, L.na, L.os, L.ag⟩
    have S4 := L4.suite hs hf
    refine store_ok (X := X.suite a (X.pn ++ pins)) (v := .ref a) S4 hN hi (.inl hln) rfl (fun s5 S5 => ?_) (.inr hln)
    refine wpAny_mono ((hsu a (X.pn ++ pins)).run [] s5 _ _ _ S5 (hyes2 a L.na)) (fun f s6 hsp => ?_) (fun _ _ z => False.elim z)
    have end_ : ∀ {σ6 : St} {H6 : Hp} {Q : Shared → Prop}, Inv (X.suite a (X.pn ++ pins)) [] σ6 H6 s6 → (∀ s7, Inv X pins (σ6.set i none) H6 s7 → Q s7) →
        wpAny (model X.prog X.w) X.A (do bindName X.env n .none; unbindBehindTheSuite X.env n pos') (fun _ s7 => Q s7) X.xe s6 := fun {σ6 H6 Q} S6 hq => gone_ok (inv_back S6 ok) hN hi hln hq
    cases f with
    | next => obtain ⟨σ6, H6, S6, q6⟩ := hsp; exact end_ S6 fun s7 J7 => ⟨_, _, J7, q6⟩
    | brk => obtain ⟨σ6, H6, S6, q6⟩ := hsp; exact end_ S6 fun s7 J7 => ⟨_, _, J7, q6⟩
    | cont => obtain ⟨σ6, H6, S6, q6⟩ := hsp; exact end_ S6 fun s7 J7 => ⟨_, _, J7, q6⟩
    | ret u => obtain ⟨v6, σ6, H6, S6, r6, q6⟩ := hsp; exact end_ S6 fun s7 J7 => ⟨_, _, _, J7, r6, q6⟩
  | false =>
    show wpAny _ X.A (handleBy (.ref a) X.env rest) _ _ _
    exact hr pins σ H a B sI cls d s D L (hno rfl)
theorem ps_try_k (hs : X.stack = X.env :: X.outer) (hf : X.env.frame = some X.env.locals)
    (hb : ∀ (W : WX) (pn : List (Addr × Obj)) (xe : Value → Shared → Prop), Takes (X.tr pn xe) W → PassesOwn (model X.prog X.w) X.A X.env xe → PSs (X.tr pn xe) body (tb W)) (hh : PH X (h0 :: rest) th) :
    PS X (.Try body (h0 :: rest) [] [] pos) (fun D σ H => tb (th D) D σ H) := by
  refine ⟨fun pins s σ H D I h => ?_⟩
  have ok := I.ok
  have hfr : X.A.frames = some (X.env :: X.outer) := by rw [ok.frames, hs]
  refine wpAny_Try_except ?_
  refine wpAny_mono ((hb (th D) (X.pn ++ pins) (fun e s1 => wpAny (model X.prog X.w) X.A (noteFrame e X.env)
    (fun _ s2 => wpAny (model X.prog X.w) X.A (setFlight e none) (fun _ s3 => wpAny (model X.prog X.w) X.A (handleBy e X.env (h0 :: rest)) (SP X pins D) X.xe s3) X.xe s2) X.xe s1)
    (fun u s' xx => ?_) PassesOwn.looking).run [] s σ H D (I.toTry _) h) (fun f s1 hsp => ?_) (fun e s1 he => he)
  · obtain ⟨a, B, sI, pins', σ', H', cls, d, rfl, J', nb, up, sky, na, os, ag, hw⟩ := xx
    have J : Inv X pins σ' H' sI := J'.ofTry ok
    have sky' : Sky B (X.env :: X.outer) a (Zc cls d) X.env.locals s'.heap := by rw [← hs]; exact sky
    show wpAny (model X.prog X.w) X.A (noteFrame (.ref a) X.env) _ _ _
    refine Sky.land Zc.steady hfr hf sky' fun h3 fl3 up3 => ?_
    exact hh pins σ' H' a B sI cls d { s' with heap := h3 } D ⟨J, nb, up.trans up3, fl3, na, os, ag⟩ hw
  · cases f with
    | next => obtain ⟨σ', H', J', q⟩ := hsp; exact wpAny_execs_nil ⟨σ', H', J'.ofTry ok, q⟩
    | brk => obtain ⟨σ', H', J', q⟩ := hsp; exact ⟨σ', H', J'.ofTry ok, q⟩
    | cont => obtain ⟨σ', H', J', q⟩ := hsp; exact ⟨σ', H', J'.ofTry ok, q⟩
    | ret u => obtain ⟨v, σ', H', J', r, q⟩ := hsp; exact ⟨v, σ', H', J'.ofTry ok, r, q⟩
/-- C(): a class without its own __init__ -/
theorem pmk_own0 {C : Addr} {bmB : List Value} {B newId initId : String} {p : Pos} (F : ExcBaseFacts B newId initId bmB) (q : PySem.W.excIn X.K C bmB newId = true) (gC : X.mg x = some (.ref C)) (kC : PySem.W.keepIn X.K (.ref C) = true) (r : Raises X (.ref C)) (hg : Gl X x)
    (hdb : (x == ("__debug__" : Str)) = false) : PMk X (.Call (.Name x p) [] [] pos) (fun _ H Q => Q (.ref C) none H) := by
  intro pins s σ H Q I h
  refine wpAny_Call_Name_kw (ld_glob I hg gC ?_ hdb)
  refine PySem.W.callWith_K0 I.kIn kC ?_
  obtain ⟨bm, N, nm, qn, bs, hdct, sn, sub, ab, col, dd, k0, k1, k2, k3, k5, mN, hC, hN, hni, T⟩ := exc_obj I.kIn q
  refine wpAny_call_exc_subT F T hC hN hni (fun h' e hm => ?_) (by show 0 ≤ sizeLine; exact Nat.zero_le _)
  exact mk_of I hm r h (I.hok.gone hm.new)
end
end U
end

section
set_option Elab.async false
set_option linter.all false
set_option maxRecDepth 100000
set_option maxHeartbeats 2000000
namespace U
open PySem PySem.Spec PyProof.Rows L2
/-! ### raise, try, except over slots -/
def pxK (K : PySem.W.Frag) : PX := ⟨xC K, xFlds⟩
/-- what the text gives of a class without its own __init__ -/
structure XOk0 (K : PySem.W.Frag) (mg : Str → Option Value) (x : Str) (c : Nat) : Prop where
  glo : mg x = some (.ref (xC K c))
  exc : PySem.W.excIn K (xC K c) He.veBase "ValueError.__new__" = true
  keep : PySem.W.keepIn K (.ref (xC K c)) = true
  sub : PySem.W.subIn K (.ref (xC K c)) (.type "BaseException") = some true
  ty : PySem.W.typeIn K (.ref (xC K c)) = some (.type "type")
section
variable {K : PySem.W.Frag} {M : MS} {F H : Hp} {σ : St} {τ : T}
theorem SRel.gone (s : SRel K M F H σ τ) (i : Nat) (x : Option V) : SRel K M F H (σ.set i x) (τ.set i .no) := by
  refine ⟨by simpa using s.len, s.up, s.sub, fun j d' e => ?_, fun j sl ov e1 e2 => ?_, fun j k sl tl b e1 m1 e2 m2 f1 f2 => ?_, fun j o e => ?_⟩
  · rcases get_set e with ⟨rfl, q, _⟩ | ⟨n, e⟩
    · cases q
    · rw [List.getElem?_set_ne (Ne.symm n)]; exact s.val j d' e
  · rcases get_set e1 with ⟨rfl, rfl, _⟩ | ⟨n, e⟩
    · cases e2
    · rw [List.getElem?_set_ne (Ne.symm n)]; exact s.own j sl ov e e2
  · rcases get_set e1 with ⟨rfl, rfl, _⟩ | ⟨n1, e1⟩
    · exact absurd rfl m1
    · rcases get_set e2 with ⟨rfl, rfl, _⟩ | ⟨n2, e2⟩
      · exact absurd rfl m2
      · rw [List.getElem?_set_ne (Ne.symm n1)] at f1
        rw [List.getElem?_set_ne (Ne.symm n2)] at f2
        exact s.apart j k sl tl b e1 m1 e2 m2 f1 f2
  · rcases get_set e with ⟨rfl, q, _⟩ | ⟨n, e⟩
    · cases q
    · rw [List.getElem?_set_ne (Ne.symm n)]; exact s.io j o e
end
section
variable {W : WX} {X : Cx} {pos pos' : Pos} {x : Str} {p : Pos}
theorem js_raise0 {c : Nat} (hc : X.calm = true) (tk : Takes X W) (E : XOk0 X.K X.mg x c) (hg : Gl X x) (hdb : (x == ("__debug__" : Str)) = false) (hf : xFlds c = []) :
    JS (pxK X.K) W X (.Raise (some (.Call (.Name x p) [] [] pos)) none pos') (fun τ => .exc ⟨c, []⟩ τ) :=
  PS.imp (ps_raise hc tk (pmk_own0 PySem.F.excBase_ValueError E.exc E.glo E.keep (raises_own E.sub E.ty) hg hdb)) fun D σ H ⟨M, F, τ, s, p⟩ => p σ F H .refl s none (.inl ⟨hf, rfl, rfl⟩)
/-! the clauses -/
def SR.outOf (i : Nat) : SR → SR
  | .nx t => .nx (t.set i .no)
  | .bk t => .bk (t.set i .no)
  | .ct t => .ct (t.set i .no)
  | .exc _ _ => .stuck
  | r => r
def sNoCatch : Ex → T → SR := fun x t => .exc x t
/-- except (class c) as (slot i); os: the other classes that may come -/
def sCatch (i c : Nat) (os : List Nat) (su : T → SR) (rest : Ex → T → SR) : Ex → T → SR := fun x t =>
  if x.c = c then (if notIo t i then (su (t.set i (.val (.exc x.c x.fs)))).outOf i else .stuck) else if x.c ∈ os then rest x t else .stuck
def sTry (b : T → SR) (h : Ex → T → SR) : T → SR := fun τ => match b τ with
  | .exc x t => h x t
  | r => r
def rdH (K : PySem.W.Frag) (W : WX) (h : Ex → T → SR) : Ends → WX := fun D cls d σ H => ∃ x M F τ, cls = .ref (xC K x.c) ∧ SRel K M F H σ τ ∧ XD K (pxK K) F x d ∧ SPost K (pxK K) W M F H D (h x τ)
def JH (W : WX) (X : Cx) (hs : List ExceptHandler) (h : Ex → T → SR) : Prop := PH X hs (rdH X.K W h)
theorem PH.imp {hs : List ExceptHandler} {t t' : Ends → WX} (h : PH X hs t) (i : ∀ D cls d σ H, t' D cls d σ H → t D cls d σ H) : PH X hs t' := fun pins σ H a B sI cls d s D L q => h pins σ H a B sI cls d s D L (i _ _ _ _ _ q)
theorem jh_nil (hs : X.stack = X.env :: X.outer) (hf : X.env.frame = some X.env.locals) (tk : Takes X W) : JH W X [] sNoCatch :=
  PH.imp (ph_nil hs hf tk) fun D cls d σ H ⟨x, M, F, τ, e, s, xd, p⟩ => by
    subst e
    exact p σ F H .refl s d xd
theorem rep_exc {K : PySem.W.Frag} {F : Hp} {a : Addr} {x : Ex} {d : Option Addr} (xd : XD K (pxK K) F x d) (ha : F a = none) : Rep K (upd F a (xo a (xC K x.c) d)) (.ref a) (.exc x.c x.fs) := by
  rcases xd with ⟨h1, h2, h3⟩ | ⟨dd, fl, h1, h2, h3, h4⟩
  · rw [h2, h3]
    exact .exc0 upd_same h1
  · subst h1
    have ne : dd ≠ a := fun z => by rw [z, ha] at h2; cases h2
    exact .excD upd_same (by rw [upd_ne ne]; exact h2) h3 (h4.mono (Sub.upd ha))
theorem outOf_post {K : PySem.W.Frag} {M : MS} {F H F2 H2 : Hp} {D : Ends} {i : Nat} {r : SR} (p : SPost K (pxK K) W M F H D (r.outOf i)) (g : Grow M F H F2 H2) :
    SPost K (pxK K) W M F2 H2 { nx := fun σ' H' => D.nx (σ'.set i none) H', rt := D.rt, bk := fun σ' H' => D.bk (σ'.set i none) H', ct := fun σ' H' => D.ct (σ'.set i none) H' } r := by
  cases r with
  | nx t => exact fun σ' F' H' g' s => p _ F' H' (g.trans g') (s.gone i none)
  | bk t => exact fun σ' F' H' g' s => p _ F' H' (g.trans g') (s.gone i none)
  | ct t => exact fun σ' F' H' g' s => p _ F' H' (g.trans g') (s.gone i none)
  | rt r t => cases r with
    | d z => exact fun v σ' F' H' g' s r => p v σ' F' H' (g.trans g') s r
    | o z => exact fun v σ' F' H' g' s r => p v σ' F' H' (g.trans g') s r
  | exc y t => exact p.elim
  | stuck => exact p.elim
theorem jh_as {i c : Nat} {os : List Nat} {n : Str} {np : Pos} {b0 : Stmt} {su : List Stmt} {rest : List ExceptHandler} {f : T → SR} {g : Ex → T → SR} (hs : X.stack = X.env :: X.outer) (hf : X.env.frame = some X.env.locals) (hN : X.N.Nodup) (hi : X.N[i]? = some n) (hln : X.env.kindOf n = some .local)
    (hg : Gl X x) (hdb : (x == ("__debug__" : Str)) = false) (hm : X.mg x = some (.ref (xC X.K c))) (hy : PySem.W.exmOne X.K (.ref (xC X.K c)) (.ref (xC X.K c)) = some true) (ho : ∀ c' ∈ os, PySem.W.exmOne X.K (.ref (xC X.K c')) (.ref (xC X.K c)) = some false)
    (hsu : ∀ (a : Addr) (pn : List (Addr × Obj)), JSs (pxK X.K) W (X.suite a pn) (b0 :: su) f) (hr : JH W X rest g) :
    JH W X (.ExceptHandler (some (.Name x np)) (some n) (b0 :: su) pos' :: rest) (sCatch i c os f g) := by
  refine PH.imp (ph_as (ts := rdS X.K (pxK X.K) W f) (tr := rdH X.K W g) hs hf hN hi hln ⟨hg, hdb, .inl hm⟩ (fun a pn => hsu a pn) hr) fun D cls d σ H ⟨y, M, F, τ, e, s, xd, p⟩ => ?_
  subst e
  unfold sCatch at p
  by_cases q : y.c = c
  · rw [if_pos q] at p
    refine ⟨true, by rw [q]; exact hy, fun _ => ⟨_, rfl, fun a ha => ?_⟩, fun z => Bool.noConfusion z⟩
    by_cases ni : notIo τ i = true
    · rw [if_pos ni] at p
      have hfa : F a = none := s.new (o := xo a (xC X.K y.c) d) ha
      exact ⟨M, upd F a (xo a (xC X.K y.c) d), _, (s.lay ha).setv ni (rep_exc xd hfa), outOf_post p (grow_new ha hfa)⟩
    · rw [if_neg ni] at p; exact p.elim
  · rw [if_neg q] at p
    by_cases m : y.c ∈ os
    · rw [if_pos m] at p
      exact ⟨false, ho _ m, fun z => Bool.noConfusion z, fun _ => ⟨y, M, F, τ, rfl, s, xd, p⟩⟩
    · rw [if_neg m] at p; exact p.elim
theorem js_try {body : List Stmt} {h0 : ExceptHandler} {rest : List ExceptHandler} {b : T → SR} {h : Ex → T → SR} (hs : X.stack = X.env :: X.outer) (hf : X.env.frame = some X.env.locals)
    (hb : ∀ (W : WX) (pn : List (Addr × Obj)) (xe : Value → Shared → Prop), Takes (X.tr pn xe) W → PassesOwn (model X.prog X.w) X.A X.env xe → JSs (pxK X.K) W (X.tr pn xe) body b) (hh : JH W X (h0 :: rest) h) :
    JS (pxK X.K) W X (.Try body (h0 :: rest) [] [] pos) (sTry b h) := by
  refine PS.imp (ps_try_k hs hf (tb := fun W' => rdS X.K (pxK X.K) W' b) hb hh) fun D σ H ⟨M, F, τ, s, p⟩ => ⟨M, F, τ, s, ?_⟩
  unfold sTry at p
  cases e : b τ with
  | nx t => rw [e] at p; exact p
  | bk t => rw [e] at p; exact p
  | ct t => rw [e] at p; exact p
  | rt r t => rw [e] at p; cases r <;> exact p
  | stuck => rw [e] at p; exact p
  | exc y t =>
    rw [e] at p
    exact fun σ' F' H' g' s' dd xd => ⟨y, M, F', t, rfl, s', xd, SPost.from p g'⟩
end
theorem lookup_memB {α β : Type} [BEq α] [LawfulBEq α] {a : α} {b : β} : ∀ {l : List (α × β)}, l.lookup a = some b → (a, b) ∈ l
  | [], h => by cases h
  | (x, y) :: l, h => by
    simp only [List.lookup] at h
    cases q : (a == x) with
    | true => rw [q] at h; cases h; rw [eq_of_beq q]; exact List.mem_cons_self ..
    | false => rw [q] at h; exact List.mem_cons_of_mem _ (lookup_memB h)
/-! ### err.f, isinstance(err, C) -/
def sFld (os : List Nat) (f : Str) (e : T → Rs D) : T → Rs PR := fun τ => (e τ).bind fun d τ1 => match d with
  | .exc c fs => if c ∈ os then (match ((xFlds c).zip fs).lookup f with
    | some z => .ok (.d z) τ1
    | none => .stuck) else .stuck
  | _ => .stuck
structure XFl (K : PySem.W.Frag) (c : Nat) (f : Str) : Prop where
  t : XfC K (xC K c)
  no : PySem.W.findIn K (.ref (xC K c)) f = some none
theorem fld_look {K : PySem.W.Frag} {F : Hp} {f : Str} : ∀ {fl : List (Str × V)} {ns : List Str} {fs : List D} {z : D}, fl.map (·.1) = ns → RepL K F (fl.map (·.2)) fs → (ns.zip fs).lookup f = some z → ∃ v, fl.lookup f = some v ∧ Rep K F v z
  | [], _, _, z, e, r, h => by subst e; simp at h
  | (n, v) :: fl, _, _, z, e, .cons (ds := ds) rv rr, h => by
    subst e
    simp only [List.map_cons, List.zip_cons_cons, List.lookup] at h ⊢
    cases q : (f == n) with
    | true => rw [q] at h; cases h; exact ⟨v, rfl, rv⟩
    | false => rw [q] at h; exact fld_look rfl rr h
section
variable {W : WX} {X : Cx} {pos p : Pos} {e : Expr} {px : PX}
def tXk (K : PySem.W.Frag) (os : List Nat) (f : Str) (te : TE) : TE := fun σ H Q => te σ H fun x H1 => ∃ (a : Addr) (c : Nat) (dd : Addr) (fl : List (Str × V)) (v : V), x = .ref a ∧ c ∈ os ∧ H1 a = some (xo a (xC K c) (some dd)) ∧ H1 dd = some (.xd fl) ∧ fl.lookup f = some v ∧ Q v H1
theorem pe_xk {te : TE} {n : Str} {os : List Nat} (T : ∀ c ∈ os, XFl X.K c n) (he : PE X e te) (hb : attributeBase e n X.env (eval e X.env) = eval e X.env) : PE X (.Attribute e n pos) (tXk X.K os n te) := by
  refine ⟨fun pins s σ H Q I h => ?_⟩
  refine attr_of hb (thn (he.run pins s σ H _ I h) fun u s1 hh => ?_)
  obtain ⟨x, H1, I1, rx, a, c, dd, fl, v, ex, hc, ha, hd, l, q⟩ := hh
  subst ex
  obtain rfl : u = Value.ref a := rx
  obtain ⟨oe, vs, hoe, hz, hdat⟩ := xo_at I1.hok ha
  have hx : ObjOk X.prog X.w H1 s1.heap dd (.xd fl) := I1.hok dd _ hd
  obtain ⟨mA, hns, hr⟩ := hx
  obtain ⟨od, ho, hl⟩ := lookIn_ns hns
  obtain ⟨u, hu, ru⟩ := RelO.some_of (v := v) (o := mA n) (by rw [← l]; exact hr n)
  have J : PySem.W.InstAt s1.heap a oe (xC X.K c) (some od) :=
    ⟨hoe, hz.1, by unfold PySem.W.notCls; rw [hdat] <;> rfl, by rw [hz.2]; exact ho⟩
  have T1 := (T c hc).t
  exact PySem.HandSPX.exc_get I1.kIn J T1.ga T1.gg T1.exC (PySem.W.findObj_own T1.hdC (T c hc).no rfl (by rw [hl, hu])) (handed_of ru) ⟨v, H1, I1.tok _, ru, q⟩
theorem jx_fld {f : T → Rs D} {n : Str} {os : List Nat} (T : ∀ c ∈ os, XFl X.K c n) (he : JE px W X e f) (hb : attributeBase e n X.env (eval e X.env) = eval e X.env) : JX px W X (.Attribute e n pos) (sFld os n f) := by
  refine PE.imp (pe_xk T he hb) fun σ H Q ⟨M, F, τ, s, p⟩ => rdE_bind s p fun d τ1 F1 H1 v g1 s1 rv p1 => ?_
  cases d <;> first | (exact p1.elim) | skip
  rename_i c fs
  have p1 : Post X.K px W M F1 H1 σ (if c ∈ os then (match ((xFlds c).zip fs).lookup n with | some z => .ok (.d z) τ1 | none => .stuck) else .stuck) (RX X.K M σ Q) := p1
  by_cases hc : c ∈ os
  · rw [if_pos hc] at p1
    cases q : ((xFlds c).zip fs).lookup n with
    | none => rw [q] at p1; exact p1.elim
    | some z =>
      rw [q] at p1
      cases rv with
      | exc0 h1 h2 => rw [h2] at q; simp at q
      | excD h1 h2 h3 h4 =>
        obtain ⟨v, l, rv⟩ := fld_look h3 h4 q
        exact ⟨_, c, _, _, v, rfl, hc, s1.sub _ _ h1, s1.sub _ _ h2, l, p1 F1 H1 .refl s1 v rv⟩
  · rw [if_neg hc] at p1; exact p1.elim
structure XIs (K : PySem.W.Frag) (c : Nat) : Prop where
  cl : (PySem.W.clsIn K (xC K c)).isSome = true
  ga : PySem.W.findIn K (.ref (xC K c)) "__getattribute__" = some (some (.builtin "BaseException.__getattribute__"))
  gt : PySem.W.findIn K (.ref (xC K c)) "__getattr__" = some none
  sub : PySem.W.subIn K (.ref (xC K c)) (.type "BaseException") = some true
  ca : PySem.W.findIn K (.ref (xC K c)) "__class__" = some (some (.builtin "object.__class__"))
  sp : PySem.W.specialIn K (.builtin "object.__class__") "__get__" = some (some (.builtin "getset_descriptor.__get__"))
  tk : PySem.W.takesIn K (.builtin "object.__class__") = some true
  mo : PySem.W.mroIn K (xC K c) (.type "object") = some true
def rIsX (K : PySem.W.Frag) : List V → Hp → VK → Prop := fun xs H Q => ∃ (a : Addr) (c : Nat) (d : Option Addr) (w : V) (cv : Value) (b : Bool), xs = [.ref a, w] ∧ H a = some (xo a (xC K c) d) ∧ (∀ dd, d = some dd → ∃ fl, H dd = some (.xd fl)) ∧ XIs K c ∧ (∀ u, RelV w u → u = cv) ∧ PySem.W.kitOne K (.ref (xC K c)) cv = some b ∧ Q (.bl b) H
theorem call_isX : CallR X (.builtin "isinstance") (rIsX X.K) := by
  intro pins s σ H xs us Q I r h
  obtain ⟨a, c, d, w, cv, b, rfl, ha, hd, T, hcv, e, q⟩ := h
  cases r with
  | cons rx rr =>
    cases rr with
    | cons rt rr =>
      cases rr
      cases rx
      have ec := hcv _ rt
      subst ec
      obtain ⟨oe, vs, hoe, hz, hdat⟩ := xo_at I.hok ha
      have J : ∃ od, PySem.W.InstAt s.heap a oe (xC X.K c) od := by
        cases d with
        | none => exact ⟨none, hoe, hz.1, by unfold PySem.W.notCls; rw [hdat] <;> rfl, by rw [hz.2]; trivial⟩
        | some dd =>
          obtain ⟨fl, hfl⟩ := hd dd rfl
          have hx : ObjOk X.prog X.w H s.heap dd (.xd fl) := I.hok dd _ hfl
          obtain ⟨mA, hns, _⟩ := hx
          obtain ⟨od, ho, _⟩ := lookIn_ns hns
          exact ⟨some od, hoe, hz.1, by unfold PySem.W.notCls; rw [hdat] <;> rfl, by rw [hz.2]; exact ho⟩
      obtain ⟨od, J⟩ := J
      exact PySem.W.kia_one (PySem.W.kitx_exc T.cl T.ga T.gt T.sub T.ca T.sp T.tk T.mo) I.kIn J e (fun z => nomatch z) fun tk => ⟨.bl b, H, I.kept (t' := tk) fun _ _ z => z, rfl, q⟩
/-- tab: the answer for each class -/
def sIsX (tab : List (Nat × Bool)) (f : T → Rs D) : T → Rs PR := fun τ => (f τ).bind fun d τ1 => match d with
  | .exc c _ => (match tab.lookup c with
    | some b => .ok (.d (.bl b)) τ1
    | none => .stuck)
  | _ => .stuck
theorem jx_isX {f : T → Rs D} {x : Str} {tab : List (Nat × Bool)} {w : V} {cv : Value} {p2 : Pos} (hg : Gl X "isinstance") (hm : X.mg "isinstance" = none) (T : ∀ q ∈ tab, XIs X.K q.1 ∧ PySem.W.kitOne X.K (.ref (xC X.K q.1)) cv = some q.2) (hw : ∀ u, RelV w u → u = cv) (hcl : PE X (.Name x p2) (tC w)) (he : JE px W X e f)
    (ha : starEach [e, .Name x p2] X.env = (false, eval e X.env) :: starEach [.Name x p2] X.env) :
    JX px W X (.Call (.Name "isinstance" p) [e, .Name x p2] [] pos) (sIsX tab f) := by
  refine PE.imp (pe_callB call_isX hg hm boot_isinstance (pa_cons he (pa_cons hcl pa_nil rfl) ha) (by decide) (by decide) ha rfl) fun σ H Q ⟨M, F, τ, s, p⟩ => rdE_bind s p fun d τ1 F1 H1 v g1 s1 rv p1 => ?_
  show rIsX X.K [v, w] H1 Q
  cases d <;> first | (exact p1.elim) | skip
  rename_i c fs
  have p1 : Post X.K px W M F1 H1 σ (match tab.lookup c with | some b => .ok (.d (.bl b)) τ1 | none => .stuck) (RX X.K M σ Q) := p1
  cases q : tab.lookup c with
  | none => rw [q] at p1; exact p1.elim
  | some b =>
    rw [q] at p1
    obtain ⟨T1, T2⟩ := T _ (lookup_memB q)
    have pw := p1 F1 H1 .refl s1 (.bl b) (.bl b)
    cases rv with
    | exc0 h1 h2 => exact ⟨_, c, none, w, cv, b, rfl, s1.sub _ _ h1, fun dd z => (nomatch z), T1, hw, T2, pw⟩
    | excD h1 h2 h3 h4 => exact ⟨_, c, _, w, cv, b, rfl, s1.sub _ _ h1, fun dd z => by cases z; exact ⟨_, s1.sub _ _ h2⟩, T1, hw, T2, pw⟩
end
end U
end

section
set_option Elab.async false
set_option linter.all false
set_option maxRecDepth 100000
set_option maxHeartbeats 2000000
namespace U
open PySem PySem.Spec PyProof.Rows L2
/-! ### [f, g, ..][i](e, ..) -/
inductive PickL (X : Cx) (px : PX) (k n : Nat) : List Expr → List V → List (List Sl → DR) → Prop
  | nil : PickL X px k n [] [] []
  | cons {x : Str} {p : Pos} {es : List Expr} {vs : List V} {ds : List (List Sl → DR)} {f : Addr} {fd : FuncData} {ps : List Str} {den : List Sl → DR} : FnOk X.prog X.w X.K X.mg X.base (L2.CX X.prog X.w) k f fd ps (spOf X.K px n den) → Gl X x → X.mg x = some (.ref f) →
    PySem.W.keepIn X.K (.ref f) = true → Binds X.K fd ps [] → (x == ("__debug__" : Str)) = false → PickL X px k n es vs ds → PickL X px k n (.Name x p :: es) (.ref f :: vs) (den :: ds)
section
variable {px : PX} {W : WX} {X : Cx} {k n : Nat} {pos p pl ps0 : Pos}
theorem PickL.pa : ∀ {es : List Expr} {vs : List V} {ds : List (List Sl → DR)}, PickL X px k n es vs ds → PA X es (fun _ H Q => Q vs H)
  | _, _, _, .nil => PA.imp pa_nil fun σ H Q q => q
  | _, _, _, .cons (x := x) (f := f) (p := p) F hg hm hk hb hdb r => by
    have h1 : PE X (.Name x p) (tC (.ref f)) := ⟨fun pins s σ H Q I h => ld_glob I hg hm ⟨.ref f, H, I, rfl, h⟩ hdb⟩
    exact PA.imp (pa_cons h1 r.pa) fun σ H Q q => q
theorem PickL.len : ∀ {es : List Expr} {vs : List V} {ds : List (List Sl → DR)}, PickL X px k n es vs ds → vs.length = ds.length
  | _, _, _, .nil => rfl
  | _, _, _, .cons _ _ _ _ _ _ r => congrArg (· + 1) r.len
theorem PickL.get : ∀ {es : List Expr} {vs : List V} {ds : List (List Sl → DR)}, PickL X px k n es vs ds → ∀ {i : Nat} {den : List Sl → DR}, ds[i]? = some den →
    ∃ f fd ps, vs[i]? = some (.ref f) ∧ FnOk X.prog X.w X.K X.mg X.base (L2.CX X.prog X.w) k f fd ps (spOf X.K px n den) ∧ PySem.W.keepIn X.K (.ref f) = true ∧ Binds X.K fd ps []
  | _, _, _, .nil, i, den, e => by simp at e
  | _, _, _, .cons F hg hm hk hb hdb r, 0, den, e => by simp at e; subst e; exact ⟨_, _, _, rfl, F, hk, hb⟩
  | _, _, _, .cons F hg hm hk hb hdb r, i + 1, den, e => r.get (i := i) (by simpa using e)
/-- the function is one of some by its number -/
def sPickC (ds : List (List Sl → DR)) (fi : T → Rs D) (fa : T → Rs (List BR)) : T → Rs PR := fun τ => (fi τ).bind fun d τ1 => match d with
  | .int i => (match i with
    | .ofNat j => (match ds[j]? with
      | some den => sCall den fa τ1
      | none => .stuck)
    | _ => .stuck)
  | _ => .stuck
theorem jx_pick {es as : List Expr} {a ie : Expr} {vs : List V} {ds : List (List Sl → DR)} {fi : T → Rs D} {fa : T → Rs (List BR)} (L : PickL X px k n es vs ds) (hz : vs.length ≤ sizeLine) (hi : JE px W X ie fi) (hs : PlainIx ie) (hr : Room k X.A) (tk : Takes X W) (ha : JAB px W X (a :: as) fa) (hn : ∀ τ bs τ1, fa τ = .ok bs τ1 → bs.length = n)
    (he : starEach (a :: as) X.env = (false, eval a X.env) :: starEach as X.env) (hpl : (backTo pos (starEach as X.env)).any (·.1) = false) :
    JX px W X (.Call (.Subscript (.List es pl) ie ps0) (a :: as) [] pos) (sPickC ds fi fa) := by
  have hf := pe_ix (X := X) (pos := ps0) ix_list (pe_lst (pos := pl) L.pa) hi hs
  refine ⟨fun pins s σ H Q I h => ?_⟩
  obtain ⟨M, F, τ, sr, p⟩ := h
  refine Call_ ?_
  refine thn (hf.run pins s σ H (fun v H1 => ∃ f fd ps den τ1 M1 F1, v = .ref f ∧ SRel X.K M1 F1 H1 σ τ1 ∧ FnOk X.prog X.w X.K X.mg X.base (L2.CX X.prog X.w) k f fd ps (spOf X.K px n den) ∧ PySem.W.keepIn X.K (.ref f) = true ∧ Binds X.K fd ps [] ∧ Post X.K px W M1 F1 H1 σ (sCall den fa τ1) (RX X.K M1 σ Q)) I ?_) fun u s1 hh => ?_
  · refine ⟨hz, fun q hq => ?_⟩
    have hfq : F q = none := sr.new (o := .lst vs) hq
    refine rdE_bind (k := fun d τ1 => match d with
      | .int i => (match i with
        | .ofNat j => (match ds[j]? with
          | some den => sCall den fa τ1
          | none => .stuck)
        | _ => .stuck)
      | _ => .stuck) (sr.lay (o := .lst vs) hq) (p.from (grow_new hq hfq)) fun d τ1 F1 H1 v g1 s1 rv p1 => ?_
    cases d <;> first | (exact p1.elim) | skip
    rename_i j
    cases j with
    | negSucc j => exact p1.elim
    | ofNat j =>
      have p1 : Post X.K px W M F1 H1 σ (match ds[j]? with | some den => sCall den fa τ1 | none => .stuck) (RX X.K M σ Q) := p1
      cases ed : ds[j]? with
      | none => rw [ed] at p1; exact p1.elim
      | some den =>
        rw [ed] at p1
        obtain ⟨f, fd, ps, ev, F1', hk, hb⟩ := L.get ed
        cases rv
        have hH : H1 q = some (.lst vs) := s1.sub _ _ (g1.frz _ _ upd_same)
        refine ⟨q, vs, _, .ref f, rfl, rfl, .inl (.inl hH), ?_, f, fd, ps, den, τ1, M, F1, rfl, s1, F1', hk, hb, p1⟩
        obtain ⟨hl, e2⟩ := List.getElem?_eq_some_iff.mp ev
        unfold atI ixN
        have h0 : (0 : Int) ≤ Int.ofNat j := Int.natCast_nonneg j
        have h1 : Int.ofNat j < (vs.length : Int) := Int.ofNat_lt.mpr hl
        rw [if_pos h0, if_pos h1]
        exact ev
  · obtain ⟨v, H1, I1, rv, f, fd, ps, den, τ1, M1, F1, ev, s1r, F1', hk, hb, p1⟩ := hh
    subst ev
    obtain rfl : u = Value.ref f := rv
    refine PySem.W.callWith_K (h₀ := X.base) I1.ok.mod.kin hk ?_ he hpl
    obtain ⟨M2, F2, τ2, s2, p2⟩ := rd_call (K := X.K) hn ⟨M1, F1, τ1, s1r, p1⟩
    refine thn (ha.run pos pins s1 σ H1 (fun vs H' => spOf X.K px n den vs H' Q (WE W σ)) I1 ⟨M2, F2, τ2, s2, p2⟩) fun us s3 hh => ?_
    obtain ⟨vs', H3, I3, r3, q3⟩ := hh
    exact ⟨I3.kIn, run_fnS (E := WE W) F1' hr hb (passAt tk σ) I3 r3 q3⟩
end
/-! ### global constants -/
section
variable {px : PX} {W : WX} {X : Cx} {x : Str} {pos : Pos}
theorem jx_gint {i : Int} (hg : Gl X x) (hm : ∃ t, X.mg x = some (.int i t)) (hdb : (x == ("__debug__" : Str)) = false) : JX px W X (.Name x pos) (sC (.int i)) := by
  obtain ⟨t, hm⟩ := hm
  have h : PE X (.Name x pos) (tC (.int i)) := ⟨fun pins s σ H Q I h => ld_glob I hg hm ⟨.int i, H, I, ⟨t, rfl⟩, h⟩ hdb⟩
  exact PE.imp h fun σ H Q ⟨M, F, τ, s, p⟩ => p F H .refl s _ (.int i)
theorem jx_gstr {z : List Nat} (hg : Gl X x) (hm : ∃ t, X.mg x = some (.str (stO z) t)) (hdb : (x == ("__debug__" : Str)) = false) : JX px W X (.Name x pos) (sC (.str z)) := by
  obtain ⟨t, hm⟩ := hm
  have h : PE X (.Name x pos) (tC (.str (stO z))) := ⟨fun pins s σ H Q I h => ld_glob I hg hm ⟨.str (stO z), H, I, ⟨t, rfl⟩, h⟩ hdb⟩
  exact PE.imp h fun σ H Q ⟨M, F, τ, s, p⟩ => p F H .refl s _ (.str z)
theorem pe_own_cls {C : Addr} (hg : Gl X x) (hm : X.mg x = some (.ref C)) (hdb : (x == ("__debug__" : Str)) = false) : PE X (.Name x pos) (tC (.ref C)) :=
  ⟨fun pins s σ H Q I h => ld_glob I hg hm ⟨.ref C, H, I, rfl, h⟩ hdb⟩
end
/-! ### facts of the exception classes, all in one Bool -/
/-- under ValueError, or under LookupError -/
def xVE : Nat → Bool
  | 0 => false | 1 => false | 2 => false | 3 => false | 4 => false | _ => true
def eqV (a b : Option Value) : Bool := decide (a = b)
def xIsB (K : PySem.W.Frag) (c : Nat) : Bool := (PySem.W.clsIn K (xC K c)).isSome && (He.eqO (PySem.W.findIn K (.ref (xC K c)) "__getattribute__") (some (some (.builtin "BaseException.__getattribute__"))) && (He.eqO (PySem.W.findIn K (.ref (xC K c)) "__getattr__") (some none) &&
  (decide (PySem.W.subIn K (.ref (xC K c)) (.type "BaseException") = some true) && (He.eqO (PySem.W.findIn K (.ref (xC K c)) "__class__") (some (some (.builtin "object.__class__"))) && (He.eqO (PySem.W.specialIn K (.builtin "object.__class__") "__get__") (some (some (.builtin "getset_descriptor.__get__"))) &&
  (decide (PySem.W.takesIn K (.builtin "object.__class__") = some true) && decide (PySem.W.mroIn K (xC K c) (.type "object") = some true)))))))
theorem xIs_ok {K : PySem.W.Frag} {c : Nat} (h : xIsB K c = true) : XIs K c := by
  unfold xIsB at h
  obtain ⟨h1, h⟩ := He.ba h
  obtain ⟨h2, h⟩ := He.ba h
  obtain ⟨h3, h⟩ := He.ba h
  obtain ⟨h4, h⟩ := He.ba h
  obtain ⟨h5, h⟩ := He.ba h
  obtain ⟨h6, h⟩ := He.ba h
  obtain ⟨h7, h8⟩ := He.ba h
  exact ⟨h1, He.eqO_ok h2, He.eqO_ok h3, of_decide_eq_true h4, He.eqO_ok h5, He.eqO_ok h6, of_decide_eq_true h7, of_decide_eq_true h8⟩
def xFlB (K : PySem.W.Frag) (c : Nat) : Bool := xfB K (xC K c) && (xFlds c).all fun f => He.eqO (PySem.W.findIn K (.ref (xC K c)) f) (some none)
theorem xFl_ok {K : PySem.W.Frag} {c : Nat} {f : Str} (h : xFlB K c = true) (hf : f ∈ xFlds c) : XFl K c f := by
  obtain ⟨h1, h2⟩ := He.ba h
  exact ⟨xfB_ok h1, He.eqO_ok (List.all_eq_true.mp h2 f hf)⟩
def x0B (K : PySem.W.Frag) (c : Nat) : Bool := PySem.W.excIn K (xC K c) He.veBase "ValueError.__new__" && (PySem.W.keepIn K (.ref (xC K c)) && (decide (PySem.W.subIn K (.ref (xC K c)) (.type "BaseException") = some true) && decide (PySem.W.typeIn K (.ref (xC K c)) = some (.type "type"))))
theorem x0_ok {K : PySem.W.Frag} {mg : Str → Option Value} {c : Nat} (h : x0B K c = true) (hg : mg (xName c) = some (.ref (xC K c))) : XOk0 K mg (xName c) c := by
  obtain ⟨h1, h⟩ := He.ba h
  obtain ⟨h2, h⟩ := He.ba h
  obtain ⟨h3, h4⟩ := He.ba h
  exact ⟨hg, h1, h2, of_decide_eq_true h3, of_decide_eq_true h4⟩
/-- pairs of classes: what an except clause, what isinstance says -/
def xPrB (K : PySem.W.Frag) (c c' : Nat) : Bool := decide (PySem.W.exmOne K (.ref (xC K c)) (.ref (xC K c')) = some (c == c')) && decide (PySem.W.kitOne K (.ref (xC K c)) (.ref (xC K c')) = some (c == c'))
def xBaB (K : PySem.W.Frag) (c : Nat) : Bool := decide (PySem.W.kitOne K (.ref (xC K c)) (.type "ValueError") = some (xVE c)) && decide (PySem.W.kitOne K (.ref (xC K c)) (.type "LookupError") = some (!xVE c))
/-- all that is asked of the classes cs -/
def xAll (cs : List Nat) (K : PySem.W.Frag) : Bool := cs.all fun c => xIsB K c && ((xBaB K c && (cs.all fun c' => xPrB K c c')) && (if xFlds c = [] then x0B K c else xFlB K c))
section
variable {K : PySem.W.Frag} {cs : List Nat} {c c' : Nat} {mg : Str → Option Value}
theorem xAll_at (h : xAll cs K = true) (hc : c ∈ cs) : xIsB K c = true ∧ xBaB K c = true ∧ (∀ c' ∈ cs, xPrB K c c' = true) ∧ (if xFlds c = [] then x0B K c else xFlB K c) = true := by
  have h := List.all_eq_true.mp h c hc
  obtain ⟨h1, h⟩ := He.ba h
  obtain ⟨h, h4⟩ := He.ba h
  obtain ⟨h2, h3⟩ := He.ba h
  exact ⟨h1, h2, fun c' hc' => List.all_eq_true.mp h3 c' hc', h4⟩
theorem x_is (h : xAll cs K = true) (hc : c ∈ cs) : XIs K c := xIs_ok (xAll_at h hc).1
theorem x_ve (h : xAll cs K = true) (hc : c ∈ cs) : PySem.W.kitOne K (.ref (xC K c)) (.type "ValueError") = some (xVE c) := of_decide_eq_true (He.ba (xAll_at h hc).2.1).1
theorem x_le (h : xAll cs K = true) (hc : c ∈ cs) : PySem.W.kitOne K (.ref (xC K c)) (.type "LookupError") = some (!xVE c) := of_decide_eq_true (He.ba (xAll_at h hc).2.1).2
theorem x_exm (h : xAll cs K = true) (hc : c ∈ cs) (hc' : c' ∈ cs) : PySem.W.exmOne K (.ref (xC K c)) (.ref (xC K c')) = some (c == c') := of_decide_eq_true (He.ba ((xAll_at h hc).2.2.1 c' hc')).1
theorem x_kit (h : xAll cs K = true) (hc : c ∈ cs) (hc' : c' ∈ cs) : PySem.W.kitOne K (.ref (xC K c)) (.ref (xC K c')) = some (c == c') := of_decide_eq_true (He.ba ((xAll_at h hc).2.2.1 c' hc')).2
theorem x_0 (h : xAll cs K = true) (hc : c ∈ cs) (hf : xFlds c = []) (hg : mg (xName c) = some (.ref (xC K c))) : XOk0 K mg (xName c) c := by
  have := (xAll_at h hc).2.2.2
  rw [if_pos hf] at this
  exact x0_ok this hg
theorem x_fl {f : Str} (h : xAll cs K = true) (hc : c ∈ cs) (hf : f ∈ xFlds c) : XFl K c f := by
  have := (xAll_at h hc).2.2.2
  have ne : ¬ xFlds c = [] := fun z => by rw [z] at hf; cases hf
  rw [if_neg ne] at this
  exact xFl_ok this hf
theorem x_isV (h : xAll cs K = true) {l : List Nat} (hl : ∀ c ∈ l, c ∈ cs) : ∀ q ∈ l.map (fun c => (c, xVE c)), XIs K q.1 ∧ PySem.W.kitOne K (.ref (xC K q.1)) (.type "ValueError") = some q.2 := fun q hq => by
  obtain ⟨c, hc, rfl⟩ := List.mem_map.mp hq
  exact ⟨x_is h (hl c hc), x_ve h (hl c hc)⟩
theorem x_isL (h : xAll cs K = true) {l : List Nat} (hl : ∀ c ∈ l, c ∈ cs) : ∀ q ∈ l.map (fun c => (c, !xVE c)), XIs K q.1 ∧ PySem.W.kitOne K (.ref (xC K q.1)) (.type "LookupError") = some q.2 := fun q hq => by
  obtain ⟨c, hc, rfl⟩ := List.mem_map.mp hq
  exact ⟨x_is h (hl c hc), x_le h (hl c hc)⟩
theorem x_isO (h : xAll cs K = true) {l : List Nat} (hl : ∀ c ∈ l, c ∈ cs) (hc' : c' ∈ cs) : ∀ q ∈ l.map (fun c => (c, c == c')), XIs K q.1 ∧ PySem.W.kitOne K (.ref (xC K q.1)) (.ref (xC K c')) = some q.2 := fun q hq => by
  obtain ⟨c, hc, rfl⟩ := List.mem_map.mp hq
  exact ⟨x_is h (hl c hc), x_kit h (hl c hc) hc'⟩
end
/-! ### a law's end -/
theorem walk_U2 {l : PySem.W.OpenLaw} {n k : Nat} {q : Program} {loose : List Str} {XP : (Str → Option Value) → Heap → Prop} {YP : World → Heap → Prop} {d : DefRec} {x : Str} {den : List Sl → DR} (hn : l.most = some n) (hn2 : n ≤ sizeLine) (hdf : d.params.defaults = []) (hr : Room k callerA)
    (F : ∀ (w : World) (mg : Str → Option Value) (fa : Addr) (h : Heap), YP w h → h.Ns mainGlobals mg → mg d.name = some (.ref fa) → ∃ (K : PySem.W.Frag) (fd : FuncData), K.In h ∧ (∀ (s : Shared) (u : Value), BindsTo s fd ⟨[u], []⟩ [(x, u)]) ∧
      ∀ base : Heap, K.In base → base.Ns mainGlobals mg → FnOk l.prog w K mg base (L2.CX l.prog w) k fa fd [x] (spOf K (pxK K) 1 den))
    (hden : ∀ ns : List Int, ns.length ≤ n → ∃ fs, den [.val (.scr ns)] = .ok (.d (.bl true)) fs) :
    PySem.W.WalkO q loose XP YP l.row.toRowW d [] (fun f vs => PySem.call f vs) := by
  refine Att.attach_call hn hdf fun w s0 s1 mg mb fa o pm cd doc a vs ns G Y ho hd hcd hmg hobj hints hlen hg => ?_
  obtain ⟨K, fd, KX, hb, hF⟩ := F w mg fa _ Y G.T.g hmg
  exact law_call (CX := L2.CX l.prog w) KX G.T.g G.T.b G.T.builtins G.T.nolimit hg hobj hints (Nat.le_trans hlen hn2) hr hF hb (fun H _ hS => law_sp hS (hden ns hlen)) fun H e s' z => by
    obtain ⟨_, _, _, _, _, _, _, _, _, _, _, _, z⟩ := z
    exact z
end U
end

section
set_option Elab.async false
set_option linter.all false
set_option maxRecDepth 100000
set_option maxHeartbeats 2000000
namespace U
open PySem PySem.Spec PyProof.Rows L2
structure B2s (mg : Str → Option Value) : Prop where
  ve : mg "ValueError" = none
  le : mg "LookupError" = none
theorem pick_cons {X : Cx} {px : PX} {k : Nat} {x : Str} {a : Arguments} {ps : List Str} {den : List Sl → DR} {p : Pos} {es : List Expr} {ds : List (List Sl → DR)} {n : Nat} (C : Callee X.prog X.w X.K X.mg X.base px x a ps k den) (hg : Gl X x) (hdb : (x == ("__debug__" : Str)) = false) (hps : ps.length = n)
    (r : ∃ vs, PickL X px k n es vs ds) : ∃ vs, PickL X px k n (.Name x p :: es) vs (den :: ds) := by
  subst hps
  obtain ⟨f, fd, F, hm, hk, hb, _⟩ := C.ex
  obtain ⟨vs, r⟩ := r
  exact ⟨_, .cons F hg hm hk hb hdb r⟩
theorem pick_nil {X : Cx} {px : PX} {k n : Nat} : ∃ vs, PickL X px k n [] vs [] := ⟨[], .nil⟩
theorem jx_pickC {X : Cx} {px : PX} {W : WX} {k n : Nat} {pos pl ps0 : Pos} {es as : List Expr} {a ie : Expr} {ds : List (List Sl → DR)} {fi : T → Rs D} {fa : T → Rs (List BR)} (L : ∃ vs, PickL X px k n es vs ds) (hz : ds.length ≤ 100) (hi : JE px W X ie fi) (hs : PlainIx ie) (hr : Room k X.A) (tk : Takes X W) (ha : JAB px W X (a :: as) fa) (hn : ∀ τ bs τ1, fa τ = .ok bs τ1 → bs.length = n)
    (he : starEach (a :: as) X.env = (false, eval a X.env) :: starEach as X.env) (hpl : (backTo pos (starEach as X.env)).any (·.1) = false) :
    JX px W X (.Call (.Subscript (.List es pl) ie ps0) (a :: as) [] pos) (sPickC ds fi fa) := by
  obtain ⟨vs, L⟩ := L
  exact jx_pick L (by rw [L.len]; exact Nat.le_trans hz (by decide)) hi hs hr tk ha hn he hpl
end U
end

section
set_option Elab.async false
set_option linter.all false
set_option maxRecDepth 100000
namespace U
open PySem PySem.Spec PyProof.Rows L2
/-! evaluation of try, raise, picked calls -/
theorem evl8 : (∀ b h τ, sTry b h τ = match b τ with | .exc x t => h x t | r => r) ∧
    (∀ i c os su rest fs t, sCatch i c os su rest ⟨c, fs⟩ t = if notIo t i then (su (t.set i (.val (.exc c fs)))).outOf i else .stuck) ∧
    (∀ x t, sNoCatch x t = .exc x t) ∧
    (∀ i t, (SR.nx t).outOf i = .nx (t.set i .no)) ∧ (∀ i r t, (SR.rt r t).outOf i = .rt r t) ∧
    (∀ tab f τ, sIsX tab f τ = (f τ).bind fun d τ1 => match d with
      | .exc c _ => (match tab.lookup c with
        | some b => .ok (.d (.bl b)) τ1
        | none => .stuck)
      | _ => .stuck) ∧
    (∀ os n e τ, sFld os n e τ = (e τ).bind fun d τ1 => match d with
      | .exc c fs => if c ∈ os then (match ((xFlds c).zip fs).lookup n with
        | some z => .ok (.d z) τ1
        | none => .stuck) else .stuck
      | _ => .stuck) ∧
    (∀ ds fi fa τ, sPickC ds fi fa τ = (fi τ).bind fun d τ1 => match d with
      | .int i => (match i with
        | .ofNat j => (match ds[j]? with
          | some den => sCall den fa τ1
          | none => .stuck)
        | _ => .stuck)
      | _ => .stuck) ∧
    (∀ (x : Ex) (t : T) (as : List Sl), DR.of (.exc x t) as = (match finals as t with | some fs => .exc x fs | none => .stuck)) ∧
    (∀ (α : Type) (x : Ex) (t : T) (f : α → T → SR), (Rs.exc x t).s f = .exc x t) ∧
    (∀ (α β : Type) (x : Ex) (t : T) (f : α → T → Rs β), (Rs.exc x t).bind f = .exc x t) ∧
    (∀ (x : Ex) (t : T) (g : T → SR), (SR.exc x t).then g = .exc x t) :=
  ⟨fun _ _ _ => rfl, fun i c os su rest fs t => by simp [sCatch], fun _ _ => rfl, fun _ _ => rfl, fun _ _ _ => rfl, fun _ _ _ => rfl, fun _ _ _ _ => rfl, fun _ _ _ _ => rfl, fun _ _ _ => rfl, fun _ _ _ _ => rfl, fun _ _ _ _ _ => rfl, fun _ _ _ => rfl⟩
end U
end

section
set_option Elab.async false
set_option linter.all false
set_option maxRecDepth 100000
namespace U
open PySem PySem.Spec PyProof.Rows L2
/-! ### owned lists frozen ahead of a piece (nothing happens in the machine) -/
def fz1 (i : Nat) (τ : T) : T := match τ[i]? with
  | some (.own (.l ds)) => τ.set i (.val (.lst ds))
  | _ => τ
def fzA : List Nat → T → T
  | [], τ => τ
  | i :: is, τ => fzA is (fz1 i τ)
section
variable {K : PySem.W.Frag} {px : PX} {W : WX} {M : MS} {F H : Hp} {σ : St} {τ : T}
theorem fz1_ok (s : SRel K M F H σ τ) (i : Nat) : ∃ F', Grow M F H F' H ∧ SRel K M F' H σ (fz1 i τ) := by
  unfold fz1
  cases e : τ[i]? with
  | none => exact ⟨F, .refl, s⟩
  | some sl =>
    cases sl with
    | own o =>
      cases o with
      | l ds =>
        obtain ⟨a, hv, b, u, eb, h2, h3, h4, h5, h6⟩ := s.own_at e rfl
        cases eb
        cases h5 with
        | l r =>
          obtain ⟨g, s1⟩ := sealing (o := .lst _) (s.drop i) h2 h3 h4 h6
          rw [upd_id h2] at g s1
          exact ⟨_, g, s1.sealed (o := .l ds) hv (.lst upd_same (r.mono (Sub.upd h3)))⟩
      | d t ks vs => exact ⟨F, .refl, s⟩
    | _ => exact ⟨F, .refl, s⟩
theorem fzA_ok : ∀ (is : List Nat) {F : Hp} {τ : T}, SRel K M F H σ τ → ∃ F', Grow M F H F' H ∧ SRel K M F' H σ (fzA is τ)
  | [], F, τ, s => ⟨F, .refl, s⟩
  | i :: is, F, τ, s => by
    obtain ⟨F1, g1, s1⟩ := fz1_ok s i
    obtain ⟨F2, g2, s2⟩ := fzA_ok is s1
    exact ⟨F2, g1.trans g2, s2⟩
end
def sFzX {α : Type} (is : List Nat) (f : T → Rs α) : T → Rs α := fun τ => f (fzA is τ)
def sFzS (is : List Nat) (f : T → SR) : T → SR := fun τ => f (fzA is τ)
section
variable {px : PX} {W : WX} {X : Cx}
theorem jx_fz {e : Expr} {f : T → Rs PR} (is : List Nat) (h : JX px W X e f) : JX px W X e (sFzX is f) :=
  PE.imp h fun σ H Q ⟨M, F, τ, s, p⟩ => by
    obtain ⟨F', g, s'⟩ := fzA_ok is s
    exact ⟨M, F', _, s', Post.from p g⟩
theorem js_fz {st : Stmt} {f : T → SR} (is : List Nat) (h : JS px W X st f) : JS px W X st (sFzS is f) :=
  PS.imp h fun D σ H ⟨M, F, τ, s, p⟩ => by
    obtain ⟨F', g, s'⟩ := fzA_ok is s
    exact ⟨M, F', _, s', SPost.from p g⟩
end
theorem evl9 : (∀ (α : Type) is (f : T → Rs α) τ, sFzX is f τ = f (fzA is τ)) ∧ (∀ is f τ, sFzS is f τ = f (fzA is τ)) ∧ (∀ τ, fzA [] τ = τ) ∧ (∀ i is τ, fzA (i :: is) τ = fzA is (fz1 i τ)) ∧
    (∀ i τ, fz1 i τ = match τ[i]? with
      | some (.own (.l ds)) => τ.set i (.val (.lst ds))
      | _ => τ) := ⟨fun _ _ _ _ => rfl, fun _ _ _ => rfl, fun _ => rfl, fun _ _ _ => rfl, fun _ _ => rfl⟩
end U
end

section
set_option Elab.async false
set_option linter.all false
set_option maxRecDepth 100000
set_option maxHeartbeats 4000000
namespace U
open PySem PySem.Spec PyProof.Rows L2
/-! ### raise C(e): a class with its own __init__, over ValueError or LookupError -/
structure BaseOk (B newId initId : String) (tail : List Value) : Prop where
  F : ExcBaseFacts B newId initId tail
  pass : ∀ self, PySem.refuseLoop self "__setattr__" tail = pure ()
  ob : tail.contains (.type "object") = true
theorem base_VE : BaseOk "ValueError" "ValueError.__new__" "ValueError.__init__" He.veBase := ⟨PySem.F.excBase_ValueError, PySem.F.store_ValueError.passes, by decide +kernel⟩
def leBase : List Value := [.type "LookupError", .type "Exception", .type "BaseException", .type "object"]
theorem base_LE : BaseOk "LookupError" "LookupError.__new__" "LookupError.__init__" leBase := ⟨PySem.F.excBase_LookupError, PySem.F.store_LookupError.passes, by decide +kernel⟩
/-- what the written part says of the class -/
structure OexB (K : PySem.W.Frag) (C : Addr) (newId : String) (tail : List Value) : Prop where
  cls : ∃ nm q N bs sn sub ab col dd k0 k1 k2 k3 k5, K.lookup C = some (excClassObj nm q C N bs tail true sn sub ab col dd k0 k1 k2 k3 k5 newId)
  sa : PySem.W.findIn K (.ref C) "__setattr__" = some (some (.builtin "object.__setattr__"))
  exC : PySem.W.subIn K (.ref C) (.type "BaseException") = some true
  tyC : PySem.W.typeIn K (.ref C) = some (.type "type")
  kC : PySem.W.keepIn K (.ref C) = true
section
open PySem.Builtin PySem.Builtin.ObjectAttr PySem.W PySem.Calls PySem.HandSPX
variable {prog : Program} {w : World} {A : Around} {R : Result → Shared → Prop} {hp : Heap} {g : Array GenState} {d : Drawn} {t : Nat} {os : OsState}
theorem osa_newB {K : PySem.W.Frag} {name : Str} {tk : Tok} {v : Value} {x C : Addr} {fv : Array Value} {cd : ClassData} {tail : List Value} {B newId initId : String} (T : BaseOk B newId initId tail)
    (X : K.In hp) (hx : hp.get? x = some { cls := .ref C, data := .fields fv }) (hcd : PySem.W.clsIn K C = some cd) (hm : cd.mro = .ref C :: tail) (hh : cd.hasDict = true) (ha : PySem.W.findIn K (.ref C) name = some none)
    (hq : ∀ h' tk' dx, (∀ b o, b ≠ x → hp.get? b = some o → h'.get? b = some o) → hp.objs.size ≤ dx → dx ≠ x →
      h'.get? x = some { cls := .ref C, dict := some dx, data := .fields fv } → h'.Ns1 dx (fun y => if y = name then some v else none) → R (.ok (.ret .none)) ⟨h', g, d, tk', os⟩) :
    codeAny (model prog w) A (.call (.builtin "object.__setattr__") ⟨[.ref x, .str name tk, v], []⟩) R ⟨hp, g, d, t, os⟩ := by
  have I : PySem.W.InstAt hp x { cls := .ref C, data := .fields fv } C none := ⟨hx, rfl, rfl, trivial⟩
  have SF := PySem.F.store_object
  have ne : cd.mro.isEmpty = false := by rw [hm]; rfl
  have hob : cd.mro.contains (.type "object") = true := by
    rw [hm, List.contains_cons, T.ob]; rfl
  have hxs : x ≠ hp.objs.size := Nat.ne_of_lt (Heap.lt_size hx)
  have sub : PySem.W.Looks (model prog w) hp (isInstance (.ref x) (.type "object")) true :=
    I.type.andThen (PySem.W.looks_mroIn X (by unfold PySem.W.mroIn; rw [hcd, Option.bind_some, if_neg (by rw [ne]; decide), hob]))
  refine codeAny_call_builtin SF.slot.plain SF.entry (@PySem.W.check_slot (model prog w) _ _ ⟨hp, g, d, t, os⟩ "object.__setattr__" "object" "__setattr__" (.ref x) [.str name tk, v] []
    _ SF.kind SF.split sub (SF.args (.ref x) (.str name tk) v) ?_)
  have hmr : PySem.W.Looks (model prog w) hp (mroOf (.ref C)) cd.mro := (PySem.W.looks_clsIn X hcd).andThen .now
  have L3 : PySem.W.Looks (model prog w) hp (storeTaker? none) none := .now
  have hcls : PySem.W.Looks (model prog w) hp (classData C) cd := PySem.W.looks_clsIn X hcd
  rw [PySem.W.osa_eq, refuse_eq]
  refine wpAny_bind (wpAny_bind (I.type.at (wpAny_bind (hmr.at ?_))))
  rw [hm, refuseLoop_ref, T.pass]
  refine wpAny_pure (wpAny_bind (I.type.at (wpAny_bind ((PySem.W.looks_findIn X ha).at (wpAny_bind (L3.at ?_))))))
  show wpAny _ _ (storeInOwnDict (.ref x) (.ref C) (.str name tk) name v false) _ _ _
  obtain ⟨nm, bs, mro, ns, qn, hd, sn, sb, ab, col, del⟩ := cd
  dsimp only at hh
  subst hh
  unfold storeInOwnDict ownDictForStores
  repeat (first
    | with_reducible refine PySem.HandSPX.store_in_new ?_ ?_
    | with_reducible refine wpAny_loadPart_at hx ?_
    | with_reducible refine hcls.at ?_
    | wp_step)
  · exact ⟨_, #[], _, (Heap.get?_update_ne _ _ _ _ hxs.symm).trans (Heap.get?_push_at rfl rfl), rfl,
      fun e he => absurd he (by simp), fun _ => rfl⟩
  · intro h' tk' hn' hs
    have hx1 : (hp.push { cls := .type "dict", data := .dict #[] }).get? x = some { cls := .ref C, data := .fields fv } :=
      Heap.get?_push_of_some _ hx
    refine hq h' tk' hp.objs.size (fun b o hb ho => ?_) (Nat.le_refl _) hxs.symm ?_ hn'
    · exact (hs.2 b (Nat.ne_of_lt (Heap.lt_size ho))).trans
        ((Heap.get?_update_ne _ _ _ _ hb).trans (Heap.get?_push_of_some _ ho))
    · exact (hs.2 x hxs).trans (Heap.get?_update_self _ hx1 rfl)
end
section
variable {X : Cx} {pins : List (Addr × Obj)} {σ : St} {H : Hp} {s : Shared} {a C dx : Addr} {f : Str} {y : V} {u : Value} {Q : Unit → Shared → Prop} {E : Value → Shared → Prop} {A : Around} {tail : List Value} {B newId initId : String}
theorem ost_newB (BO : BaseOk B newId initId tail) (T : OexB X.K C newId tail) (I : Inv X pins σ H s) (e : H a = some (exo a C none)) (hno : PySem.W.findIn X.K (.ref C) f = some none) (ry : RelV y u)
    (h : ∀ dx s', H dx = none → dx ≠ a → Inv X pins σ (upd (upd H dx (exd dx [(f, y)])) a (exo a C (some dx))) s' → Q () s') : wpAny (model X.prog X.w) A (setAttr (.ref a) f u) Q E s := by
  obtain ⟨nm, q, N, bs, sn, sub, ab, col, dd, k0, k1, k2, k3, k5, hC⟩ := T.cls
  have hcl : PySem.W.clsIn X.K C = some { name := nm, bases := bs, mro := .ref C :: tail, ns := N, qualname := q, hasDict := true, slotNames := sn, subclasses := sub, abstract := ab, collection := col, hasDel := false } := by
    unfold PySem.W.clsIn; rw [hC] <;> rfl
  obtain ⟨t1, ho⟩ := exo_at I.hok e
  obtain ⟨hp, g, d, t, os⟩ := s
  refine PySem.W.set_plain I.kIn (ox := { cls := .ref C, dict := none, data := .fields #[.ref t1, .none, .none, .none, .bool false, .none] }) (od := none)
    ⟨ho, rfl, rfl, trivial⟩ T.sa ?_
  refine osa_newB BO I.kIn ho hcl rfl rfl hno (fun h' tk' dx k dn dne hx hn => ?_)
  have hnd : H dx = none := I.hok.fresh dn
  have nd : ∀ {b : Addr} {o : Obj}, hp.get? b = some o → b ≠ dx := fun {b o} q => Nat.ne_of_lt (Nat.lt_of_lt_of_le (Heap.lt_size q) dn)
  have na : ∀ {b : Addr}, H b = none → b ≠ a := fun {b} n z => by rw [z, e] at n; cases n
  have Un1 : Un X.fs [] H (upd (upd H dx (exd dx [(f, y)])) a (exo a C (some dx))) hp h' := by
    refine ⟨fun b o q n _ _ => k b o (na n) q, fun b o q n _ _ => ⟨o.slots, k b o (na n) q⟩, fun b o q n _ => ?_, fun b o q _ => ?_, fun b xs q => ?_, fun b o v q => ?_, fun b ps q => ?_⟩
    · rw [upd_ne (na n), upd_ne (nd q)]; exact n
    · by_cases hb : b = a
      · exact ⟨_, by rw [hb]; exact hx⟩
      · exact ⟨o, k b o hb q⟩
    · rw [upd_ne (at_ne e q exo_tup), upd_ne (ne_of_none q hnd)]; exact q
    · rw [upd_ne (at_ne e q exo_frz), upd_ne (ne_of_none q hnd)]; exact q
    · exact ⟨#[], by rw [upd_ne (at_ne e q exo_tbl), upd_ne (ne_of_none q hnd), q]; simp⟩
  refine h dx _ hnd dne (I.un (t' := tk') Un1 fun b o q => ?_)
  by_cases hb : b = a
  · subst hb
    rw [upd_same] at q
    cases q
    exact exo_ok hx
  · rw [upd_ne hb] at q
    by_cases hd : b = dx
    · subst hd
      rw [upd_same] at q
      cases q
      exact exd_ok hn (relO_put (fs := []) ry fun g => True.intro)
    · rw [upd_ne hd] at q
      refine (I.hok b o q).stay (fun c v hc z => k c v ?_ z) (fun c hc => ?_) (fun c xs hc => ?_)
      · rcases hc with hc | hc
        · rw [hc]; exact hb
        · exact at_ne e hc exo_own
      · rw [upd_ne (at_ne e hc exo_own), upd_ne (ne_of_none hc hnd)]; exact hc
      · rw [upd_ne (at_ne e hc exo_tup), upd_ne (ne_of_none hc hnd)]; exact hc
end
/-- self.f = e, the first field -/
def tOs1 (K : PySem.W.Frag) (newId : String) (tail : List Value) (f : Str) (to te : TE) : TS := fun D σ H => te σ H fun y H1 => to σ H1 fun x H2 => ∃ a C : Addr, x = .ref a ∧ OexB K C newId tail ∧ PySem.W.findIn K (.ref C) f = some none ∧ H2 a = some (exo a C none) ∧
  ∀ dx, H2 dx = none → dx ≠ a → D.nx σ (upd (upd H2 dx (exd dx [(f, y)])) a (exo a C (some dx)))
section
variable {X : Cx} {o e : Expr} {es : List Expr} {to te : TE} {ta : TA} {f : Str} {p p' pos : Pos} {tail : List Value} {B newId initId : String}
theorem ps_os1 (BO : BaseOk B newId initId tail) (ho : PE X o to) (he : PE X e te) (hs : swapsWith e (some (.Attribute o f p')) pos.line X.env = pure false) : PS X (.Assign [.Attribute o f p'] e pos) (tOs1 X.K newId tail f to te) := by
  refine ⟨fun pins s σ H D I h => ?_⟩
  refine plainObj_wpAny_Assign_Attribute (thn (he.run pins s σ H _ I h) fun v s1 ⟨y, H1, I1, r1, q1⟩ => thn (ho.run pins s1 σ H1 _ I1 q1) fun u s2 ⟨x, H2, I2, r2, a, C, ex, T, hno, ea, q⟩ => ?_) hs
  subst ex
  obtain rfl : u = Value.ref a := r2
  exact ost_newB BO T I2 ea hno r1 fun dx s' n ne J => ⟨σ, _, J, q dx n ne⟩
/-- what __init__(self, f) promises -/
def spI1 (K : PySem.W.Frag) (newId : String) (tail : List Value) (f : Str) : Sp := fun vs H Q _ => ∃ (a C : Addr) (v : V), vs = [.ref a, v] ∧ OexB K C newId tail ∧ PySem.W.findIn K (.ref C) f = some none ∧ H a = some (exo a C none) ∧
  ∀ dx, H dx = none → dx ≠ a → Q .non (upd (upd H dx (exd dx [(f, v)])) a (exo a C (some dx)))
theorem pmkB {CX : CXT} {x : Str} {C fI : Addr} {k : Nat} {fd : FuncData} {ps : List Str} {sp : Sp} (BO : BaseOk B newId initId tail) (T : OexB X.K C newId tail) (iC : PySem.W.findIn X.K (.ref C) "__init__" = some (some (.ref fI))) (tI : PySem.W.typeIn X.K (.ref fI) = some (.type "function"))
    (F1 : FnOk X.prog X.w X.K X.mg X.base CX k fI fd ps sp) (hr : Room (k + 1) X.A) (hb : Binds X.K fd ps []) (hx : Passes CX X (fun _ _ _ => False)) (hg : Gl X x) (hm : X.mg x = some (.ref C)) (ha : PA X (e :: es) ta)
    (hdb : (x == ("__debug__" : Str)) = false) (he : starEach (e :: es) X.env = (false, eval e X.env) :: starEach es X.env) (hpl : (backTo pos (starEach es X.env)).any (·.1) = false) :
    PMk X (.Call (.Name x p) (e :: es) [] pos) (tMkO C sp [] ta) := by
  intro pins s σ H Q I h
  obtain ⟨nm, q, N, bs, sn, sub, ab, col, dd, k0, k1, k2, k3, k5, hC⟩ := T.cls
  refine wpAny_Call_Name_kw (ld_glob I hg hm ?_ hdb)
  refine PySem.W.callWith_K (h₀ := X.base) I.ok.mod.kin T.kC (thn (ha.run pos pins s σ H _ I h) fun us s1 ⟨vs, H1, I1, r1, hz, q1⟩ => ⟨I1.kIn, ?_⟩) he hpl
  show wpAny _ _ (call (.ref C) us) _ _ _
  obtain ⟨hp, g, dr, tk, os⟩ := s1
  have hsz : hp.objs.size ≤ hp.objs.size + 1 := Nat.le_succ _
  have hn : H1 (hp.objs.size + 1) = none := I1.hok.fresh hsz
  have hq := q1 (hp.objs.size + 1) hn
  have kk : ∀ b o, hp.get? b = some o → ((hp.push (PySem.W.kdv_tup us)).push (PySem.HandSPX.excO C hp.objs.size)).get? b = some o :=
    fun b o e => Heap.get?_push_of_some _ (Heap.get?_push_of_some _ e)
  have hget : ((hp.push (PySem.W.kdv_tup us)).push (PySem.HandSPX.excO C hp.objs.size)).get? (hp.objs.size + 1) = some (PySem.HandSPX.excO C hp.objs.size) := by
    heap_get
  have I2 : Inv X pins σ (upd H1 (hp.objs.size + 1) (exo (hp.objs.size + 1) C none)) ⟨(hp.push (PySem.W.kdv_tup us)).push (PySem.HandSPX.excO C hp.objs.size), g, dr, tk, os⟩ :=
    I1.laid (t' := tk) (a := hp.objs.size + 1) (o := exo (hp.objs.size + 1) C none)
      (h' := (hp.push (PySem.W.kdv_tup us)).push (PySem.HandSPX.excO C hp.objs.size)) kk hsz (exo_ok hget)
  have r2 : Vals (V.ref (hp.objs.size + 1) :: (vs ++ [])) (Value.ref (hp.objs.size + 1) :: (us ++ [])) := .cons rfl (r1.append .nil)
  have hl : (Value.ref (hp.objs.size + 1) :: us ++ []).length = ps.length := by
    have e := r2.length
    rw [F1.len _ _ _ _ hq] at e
    exact e.symm
  have hus : us.length ≤ sizeLine := by
    rw [← Paired.length r1, sizeLine_eq]
    omega
  have hb2 := hb ⟨(hp.push (PySem.W.kdv_tup us)).push (PySem.HandSPX.excO C hp.objs.size), g, dr, tk, os⟩ (Value.ref (hp.objs.size + 1) :: us) I2.kIn hl
  rw [List.cons_append] at hb2
  refine wpAny_call (PySem.HandSPX.call_own BO.F (fun Y => rfl) (I1.kIn _ _ hC) (PySem.W.looks_findIn I1.kIn iC) (fun self => PySem.W.bind_fn I1.kIn self tI) hus
    (codeAny_mono (F1.run _ X.stack _ _ ⟨Value.ref (hp.objs.size + 1) :: us, []⟩ (Value.ref (hp.objs.size + 1) :: (us ++ [])) _ _ (fun _ _ _ => False) (hr.make C us []) (I2.env0.make C us [])
      hb2 r2 hq) fun r s' hq' => ?_))
  cases r with
  | error er => exact hx pins σ _ _ er s' I2 hq'
  | ok fl =>
    cases fl with
    | ret u =>
      obtain ⟨v, H2, os2, bare2, un2, hok2, rv, ev, d, fs, ea, ed, hd1, q2⟩ := hq'
      subst ev
      obtain ⟨h2, g2, d2, t2, os'⟩ := s'
      exact ⟨rv, mk_end (raises_own T.exC T.tyC) I1 hsz kk un2 hok2 os2 bare2 ea ed hd1 q2⟩
    | next => exact False.elim hq'
    | brk => exact False.elim hq'
    | cont => exact False.elim hq'
end
/-! over slots -/
/-- what the text gives of a class with one field f: class number c, its __init__ -/
structure XOk1 (P : Program) (w : World) (K : PySem.W.Frag) (mg : Str → Option Value) (base : Heap) (x : Str) (c : Nat) (f : Str) (newId : String) (tail : List Value) : Prop where
  glo : mg x = some (.ref (xC K c))
  cls : OexB K (xC K c) newId tail
  no : PySem.W.findIn K (.ref (xC K c)) f = some none
  fld : xFlds c = [f]
  ini : ∃ fI fd, PySem.W.findIn K (.ref (xC K c)) "__init__" = some (some (.ref fI)) ∧ PySem.W.typeIn K (.ref fI) = some (.type "function") ∧ FnOk P w K mg base (L2.CX P w) 1 fI fd ["self", f] (spI1 K newId tail f) ∧ Binds K fd ["self", f] []
theorem lay_eq {H : Hp} {a C dx : Addr} {f : Str} {v : V} (ha : H a = none) (hd : dx ≠ a) : upd (del (upd (upd (upd H a (exo a C none)) dx (exd dx [(f, v)])) a (exo a C (some dx))) a) dx (.xd [(f, v)]) = upd H dx (.xd [(f, v)]) := by
  funext b
  by_cases h1 : b = dx
  · subst h1; rw [upd_same, upd_same]
  · rw [upd_ne h1, upd_ne h1]
    by_cases h2 : b = a
    · subst h2; rw [del_same, ha]
    · rw [del_ne h2, upd_ne h2, upd_ne h1, upd_ne h2]
def sRaise1 (c : Nat) (fe : T → Rs D) : T → SR := fun τ => (fe τ).s fun d τ1 => .exc ⟨c, [d]⟩ τ1
theorem js_raise1 {W : WX} {X : Cx} {x f : Str} {c : Nat} {e : Expr} {fe : T → Rs D} {p pos pos' : Pos} {tail : List Value} {B newId initId : String} (BO : BaseOk B newId initId tail) (E : XOk1 X.prog X.w X.K X.mg X.base x c f newId tail) (hc : X.calm = true) (tk : Takes X W) (hr : Room 2 X.A) (hg : Gl X x)
    (hdb : (x == ("__debug__" : Str)) = false) (he : JE (pxK X.K) W X e fe) (hs : starEach [e] X.env = (false, eval e X.env) :: starEach [] X.env) :
    JS (pxK X.K) W X (.Raise (some (.Call (.Name x p) [e] [] pos)) none pos') (sRaise1 c fe) := by
  obtain ⟨fI, fd, iC, tI, F1, hb⟩ := E.ini
  have hx : Passes (L2.CX X.prog X.w) X (fun _ _ _ => False) := passes_call takes0 (fun _ _ _ _ h => h)
  refine PS.imp (ps_raise hc tk (pmkB (es := []) BO E.cls iC tI F1 hr hb hx hg E.glo (pa_cons he pa_nil hs) hdb hs rfl)) fun D σ H ⟨M, F, τ, s, p⟩ => ?_
  refine rdE_s s p fun d τ1 F1 H1 v g1 s1 rv q => ?_
  refine ⟨by show 1 ≤ 1000; decide, fun a ha => ⟨a, xC X.K c, v, rfl, E.cls, E.no, upd_same, fun dx hdx hda => ⟨rfl, dx, [(f, v)], upd_same, ?_, ?_, ?_⟩⟩⟩
  · rw [upd_ne hda, upd_same]
  · rw [upd_ne hda] at hdx; exact hdx
  · rw [upd_ne hda] at hdx
    rw [lay_eq ha hda]
    have hf : F1 dx = none := s1.new (o := .xd [(f, v)]) hdx
    exact q σ _ _ (grow_new hdx hf) (s1.lay hdx) (some dx) (.inr ⟨dx, [(f, v)], rfl, upd_same, by show [f] = xFlds c; exact E.fld.symm, .cons (Rep.mono (Sub.upd hf) rv) .nil⟩)
/-- __init__(self, f): self.f = f -/
theorem init1 {P : Program} {w : World} {K : PySem.W.Frag} {mg : Str → Option Value} {base : Heap} {qual f : Str} {params : Arguments} {scope : Scope} {fI : Addr} {fd : FuncData} {p1 p2 p3 p4 : Pos} {tail : List Value} {B newId initId : String} (BO : BaseOk B newId initId tail)
    (F : FunD K "__init__" qual params [.Assign [.Attribute (.Name "self" p1) f p2] (.Name f p3) p4] scope [] [] fI fd) (S : FnScope ["self", f] ["self", f] scope)
    (hsw : ∀ (l : Addr) (cdv : Value), swapsWith (.Name f p3) (some (.Attribute (.Name "self" p1) f p2)) p4.line (envOfC qual scope l fI cdv) = pure false)
    (hv0 : ∀ (CX : CXT) (cdv : Value) (A : Around) (outer : List Env) (s : Shared) (H : Hp) (E : XK), PE (cxOf CX P w K mg base ["self", f] qual scope fI cdv A outer s H E) (.Name "self" p1) (tVar 0))
    (hv1 : ∀ (CX : CXT) (cdv : Value) (A : Around) (outer : List Env) (s : Shared) (H : Hp) (E : XK), PE (cxOf CX P w K mg base ["self", f] qual scope fI cdv A outer s H E) (.Name f p3) (tVar 1)) :
    FnOk P w K mg base (L2.CX P w) 1 fI fd ["self", f] (spI1 K newId tail f) := by
  refine FunD.ok (k := 0) F S (fun vs H Q E ⟨_, _, _, h, _⟩ => by rw [h]; rfl) fun cdv A outer s H vs Q E hr ⟨a, C, v, e, T, hno, ea, q⟩ => ?_
  refine ⟨_, pss_one (ps_os1 BO (hv0 _ cdv A outer s H E) (hv1 _ cdv A outer s H E) (hsw _ _)), ?_⟩
  subst e
  exact ⟨v, rfl, .ref a, rfl, a, C, rfl, T, hno, ea, fun dx h1 h2 => q dx h1 h2⟩
end U
end

section
set_option Elab.async false
set_option linter.all false
set_option maxRecDepth 100000
set_option maxHeartbeats 2000000
namespace U
open PySem PySem.Spec PyProof.Rows L2
/-! ### facts of classes with one field -/
def oexBB (K : PySem.W.Frag) (C : Addr) (newId : String) (tail : List Value) : Bool := match K.lookup C with
  | some ⟨.type t, _, .cls cd, sl⟩ => (match cd.mro, sl.toList with
    | .ref C' :: bm, [_, _, _, _, some (.builtin n), _] => decide (t = "type") && (C' == C && (n == newId && (!cd.hasDel && (cd.hasDict && decide (bm = tail)))))
    | _, _ => false)
  | _ => false
theorem oexBB_ok {K : PySem.W.Frag} {C : Addr} {newId : String} {tail : List Value} (q : oexBB K C newId tail = true) : ∃ nm qn N bs sn sub ab col dd k0 k1 k2 k3 k5, K.lookup C = some (excClassObj nm qn C N bs tail true sn sub ab col dd k0 k1 k2 k3 k5 newId) := by
  unfold oexBB at q
  split at q
  · rename_i ty dd cd sl ho
    split at q
    · rename_i C' bm k0 k1 k2 k3 n k5 hm hs
      simp only [Bool.and_eq_true, beq_iff_eq, Bool.not_eq_true', decide_eq_true_eq] at q
      obtain ⟨rfl, rfl, rfl, hdel, hh, rfl⟩ := q
      obtain ⟨nm, bs, mro, ns, qn, hd, sn, sub, ab, col, del⟩ := cd
      dsimp only at hm hdel hh
      subst hm hdel hh
      have hsl : sl = #[k0, k1, k2, k3, some (.builtin n), k5] := by
        obtain ⟨l⟩ := sl
        simp only at hs
        rw [hs]
      subst hsl
      exact ⟨nm, qn, ns, bs, sn, sub, ab, col, dd, k0, k1, k2, k3, k5, ho⟩
    · cases q
  · cases q
/-- classes over LookupError or ValueError whose __init__ keeps one value -/
def xOne : Nat → Bool
  | 0 => true | 1 => true | 6 => true | 9 => true | _ => false
def xNew (c : Nat) : String := if xVE c then "ValueError.__new__" else "LookupError.__new__"
def xTail (c : Nat) : List Value := if xVE c then He.veBase else leBase
def x1B (K : PySem.W.Frag) (c : Nat) : Bool := oexBB K (xC K c) (xNew c) (xTail c) && (He.eqO (PySem.W.findIn K (.ref (xC K c)) "__setattr__") (some (some (.builtin "object.__setattr__"))) && (decide (PySem.W.subIn K (.ref (xC K c)) (.type "BaseException") = some true) && (decide (PySem.W.typeIn K (.ref (xC K c)) = some (.type "type")) &&
  (PySem.W.keepIn K (.ref (xC K c)) && (He.eqO (PySem.W.findIn K (.ref (xC K c)) "__init__") (some (some (.ref (He.ma K (xC K c) "__init__")))) && decide (PySem.W.typeIn K (.ref (He.ma K (xC K c) "__init__")) = some (.type "function")))))))
/-- of the classes cs -/
def x1All (cs : List Nat) (K : PySem.W.Frag) : Bool := cs.all fun c => if xOne c then x1B K c else true
def xAll1 (cs : List Nat) (K : PySem.W.Frag) : Bool := xAll cs K && x1All cs K
theorem x1_ok {K : PySem.W.Frag} {c : Nat} (h : x1B K c = true) : OexB K (xC K c) (xNew c) (xTail c) ∧ PySem.W.findIn K (.ref (xC K c)) "__init__" = some (some (.ref (He.ma K (xC K c) "__init__"))) ∧ PySem.W.typeIn K (.ref (He.ma K (xC K c) "__init__")) = some (.type "function") := by
  unfold x1B at h
  obtain ⟨h1, h⟩ := He.ba h
  obtain ⟨h2, h⟩ := He.ba h
  obtain ⟨h3, h⟩ := He.ba h
  obtain ⟨h4, h⟩ := He.ba h
  obtain ⟨h5, h⟩ := He.ba h
  obtain ⟨h6, h7⟩ := He.ba h
  exact ⟨⟨oexBB_ok h1, He.eqO_ok h2, of_decide_eq_true h3, of_decide_eq_true h4, h5⟩, He.eqO_ok h6, of_decide_eq_true h7⟩
/-- the first statement of a class's body: its __init__ -/
def initOf : Stmt → Stmt
  | .ClassDef _ _ _ (b :: _) _ _ _ _ _ _ _ => b
  | s => s
theorem xBase (c : Nat) : ∃ B I, BaseOk B (xNew c) I (xTail c) := by
  unfold xNew xTail
  cases xVE c
  · exact ⟨_, _, base_LE⟩
  · exact ⟨_, _, base_VE⟩
/-- what a law's text gives of such a class -/
structure XRs (P : Program) (w : World) (K : PySem.W.Frag) (mg : Str → Option Value) (base : Heap) (c : Nat) (f : Str) : Prop where
  x : XOk1 P w K mg base (xName c) c f (xNew c) (xTail c)
theorem js_raiseX {W : WX} {X : Cx} {x f : Str} {c : Nat} {e : Expr} {fe : T → Rs D} {p pos pos' : Pos} (E : XRs X.prog X.w X.K X.mg X.base c f) (hx : xName c = x) (hc : X.calm = true) (tk : Takes X W) (hr : Room 2 X.A) (hg : Gl X x)
    (hdb : (x == ("__debug__" : Str)) = false) (he : JE (pxK X.K) W X e fe) (hs : starEach [e] X.env = (false, eval e X.env) :: starEach [] X.env) :
    JS (pxK X.K) W X (.Raise (some (.Call (.Name x p) [e] [] pos)) none pos') (sRaise1 c fe) := by
  subst hx
  obtain ⟨B, I, BO⟩ := xBase c
  exact js_raise1 BO E.x hc tk hr hg hdb he hs
theorem evl10 : (∀ c fe τ, sRaise1 c fe τ = (fe τ).s fun d τ1 => .exc ⟨c, [d]⟩ τ1) := fun _ _ _ => rfl
end U
end

section
set_option Elab.async false
set_option linter.all false
set_option maxRecDepth 100000
set_option maxHeartbeats 2000000
namespace U
open PySem PySem.Spec PyProof.Rows L2
/-! ### s.join(xs), s.split(t) -/
def strsOf : List D → Option (List (List Nat))
  | [] => some []
  | .str x :: ds => (strsOf ds).map (x :: ·)
  | _ => none
def joinL (sep : List Nat) : List (List Nat) → List Nat
  | [] => []
  | x :: xs => x ++ xs.flatMap fun y => sep ++ y
theorem join_eq (sep : List Nat) (xs : List (List Nat)) : Txt.join (stO sep) (xs.map stO) = stO (joinL sep xs) := by
  cases xs with
  | nil => rfl
  | cons x xs =>
    have key : ∀ (ys : List (List Nat)) (acc : List Nat), (ys.map stO).foldl (fun acc p => acc ++ (stO sep).cps ++ p.cps) acc.toArray = (acc ++ ys.flatMap fun y => sep ++ y).toArray := fun ys => by
      induction ys with
      | nil => intro acc; simp
      | cons y ys ih =>
        intro acc
        rw [List.map_cons, List.foldl_cons]
        have e : acc.toArray ++ (stO sep).cps ++ (stO y).cps = (acc ++ (sep ++ y)).toArray := by simp
        rw [e, ih]
        simp
    show (⟨_⟩ : Str) = stO _
    have := key xs x
    simp only [List.map_cons, List.drop_succ_cons, List.drop_zero, List.headD_cons]
    rw [this]
    rfl
def gJoin (s l : D) : Option PR := match s, l with
  | .str sep, .lst ds => (match strsOf ds with
    | some xs => if (xs.map (·.length)).sum + xs.length * sep.length ≤ lim then some (.d (.str (joinL sep xs))) else none
    | none => none)
  | .str sep, .tup ds => (match strsOf ds with
    | some xs => if (xs.map (·.length)).sum + xs.length * sep.length ≤ lim then some (.d (.str (joinL sep xs))) else none
    | none => none)
  | _, _ => none
def gSplit (s t : D) : Option PR := match s, t with
  | .str a, .str b => if b.length ≠ 0 ∧ a.length ≤ lim then some (.o (.l ((Txt.split (stO a) (stO b)).map fun z => .str z.cps.toList))) else none
  | _, _ => none
section
variable {K : PySem.W.Frag} {F H : Hp}
theorem strs_rep : ∀ {ds : List D} {xs : List (List Nat)} {vs : List V}, strsOf ds = some xs → RepL K F vs ds → vs = (xs.map stO).map V.str
  | [], xs, vs, h, r => by cases h; cases r; rfl
  | .str x :: ds, xs, vs, h, r => by
    obtain ⟨ys, e, rfl⟩ := map_some (show (strsOf ds).map (x :: ·) = some xs from h)
    cases r with
    | cons h1 r1 =>
      cases h1
      rw [strs_rep e r1]; rfl
  | .non :: _, _, _, h, _ => nomatch h
  | .bl _ :: _, _, _, h, _ => nomatch h
  | .int _ :: _, _, _, h, _ => nomatch h
  | .tup _ :: _, _, _, h, _ => nomatch h
  | .lst _ :: _, _, _, h, _ => nomatch h
  | .dct _ _ _ :: _, _, _, h, _ => nomatch h
  | .exc _ _ :: _, _, _, h, _ => nomatch h
  | .ptp _ :: _, _, _, h, _ => nomatch h
  | .scr _ :: _, _, _, h, _ => nomatch h
theorem strs_lay (ys : List Str) : RepL K F (ys.map V.str) (ys.map fun z => D.str z.cps.toList) := by
  induction ys with
  | nil => exact .nil
  | cons y ys ih =>
    refine .cons ?_ ih
    have : y = stO y.cps.toList := by cases y; simp [stO]
    rw [this]
    have h : Rep K F (.str (stO y.cps.toList)) (.str y.cps.toList) := .str _
    simpa using h
end
def sBm (g : D → D → Option PR) (fo fe : T → Rs D) : T → Rs PR := fun τ => (fo τ).bind fun d τ1 => match d with
  | .str x => (fe τ1).bind fun e τ2 => (match g (.str x) e with
    | some r => .ok r τ2
    | none => .stuck)
  | _ => .stuck
section
variable {px : PX} {W : WX} {X : Cx} {o e : Expr} {apos cpos : Pos}
theorem stO_len (x : List Nat) : (stO x).length = x.length := by simp [stO, Str.length]
theorem jx_join {fo fe : T → Rs D} (ho : JE px W X o fo) (he : JE px W X e fe) (hbase : attributeBase o "join" X.env (eval o X.env) = eval o X.env)
    (hfew : ((backTo cpos (starEach [e] X.env)).all (fun x => !x.1) && (backToKw cpos (keywordEach [] X.env)).all (fun x => x.1.isSome) && decide ([e].length + ([] : List Keyword).length + (if ([] : List Keyword).isEmpty then 0 else 1) < 30)) = true)
    (hline : (apos.endLine == cpos.line) = true) (hs : starEach [e] X.env = (false, eval e X.env) :: starEach [] X.env) : JX px W X (.Call (.Attribute o "join" apos) [e] [] cpos) (sBm gJoin fo fe) := by
  refine PE.imp (pe_bm PySem.F.plainAttrs_str PySem.F.slot_str_join PySem.F.type_str_join mt_join ho (pa_cons he pa_nil hs) hbase hfew hline hs rfl) fun σ H Q ⟨M, F, τ, s, p⟩ => rdE_bind s p fun d τ1 F1 H1 v g1 s1 rv p1 => ?_
  cases d <;> first | (exact p1.elim) | skip
  rename_i x
  cases rv
  refine ⟨rfl, ?_⟩
  refine rdE_bind s1 p1 fun d2 τ2 F2 H2 v2 g2 s2 rv2 p2 => ?_
  cases eg : gJoin (.str x) d2 with
  | none => simp only [eg] at p2; exact p2.elim
  | some r =>
    simp only [eg] at p2
    have pw := p2.pw s2
    have fin : ∀ (ds : List D), (match strsOf ds with
        | some xs => if (xs.map (·.length)).sum + xs.length * x.length ≤ lim then some (PR.d (.str (joinL x xs))) else none
        | none => none) = some r → ∃ xs, strsOf ds = some xs ∧ (xs.map (·.length)).sum + xs.length * x.length ≤ lim ∧ r = .d (.str (joinL x xs)) := fun ds h => by
      cases es : strsOf ds with
      | none => rw [es] at h; cases h
      | some xs =>
        rw [es] at h
        obtain ⟨c, rfl⟩ := ite_some h
        exact ⟨xs, rfl, c, rfl⟩
    have small : ∀ xs : List (List Nat), (xs.map (·.length)).sum + xs.length * x.length ≤ lim → ((xs.map stO).map (·.length)).sum + (xs.map stO).length * (stO x).length ≤ 16777216 := fun xs h => by
      have e1 : ((xs.map stO).map (·.length)) = xs.map (·.length) := by
        rw [List.map_map]; exact List.map_congr_left fun y _ => stO_len y
      rw [e1, List.length_map, stO_len]
      exact Nat.le_trans h (by decide)
    cases d2 <;> first | (cases eg; done) | skip
    · rename_i ds
      obtain ⟨xs, e1, e2, rfl⟩ := fin ds eg
      cases rv2 with
      | tup h r1 =>
        have ev := strs_rep e1 r1
        subst ev
        refine ⟨stO x, _, xs.map stO, rfl, rfl, .inr (.inl (.inl (s2.sub _ _ h))), small xs e2, ?_⟩
        rw [join_eq]
        exact pw.scal s2.sub (.str _)
    · rename_i ds
      obtain ⟨xs, e1, e2, rfl⟩ := fin ds eg
      cases rv2 with
      | lst h r1 =>
        have ev := strs_rep e1 r1
        subst ev
        refine ⟨stO x, _, xs.map stO, rfl, rfl, .inl (.inl (.inl (s2.sub _ _ h))), small xs e2, ?_⟩
        rw [join_eq]
        exact pw.scal s2.sub (.str _)
theorem jx_split {fo fe : T → Rs D} (ho : JE px W X o fo) (he : JE px W X e fe) (hbase : attributeBase o "split" X.env (eval o X.env) = eval o X.env)
    (hfew : ((backTo cpos (starEach [e] X.env)).all (fun x => !x.1) && (backToKw cpos (keywordEach [] X.env)).all (fun x => x.1.isSome) && decide ([e].length + ([] : List Keyword).length + (if ([] : List Keyword).isEmpty then 0 else 1) < 30)) = true)
    (hline : (apos.endLine == cpos.line) = true) (hs : starEach [e] X.env = (false, eval e X.env) :: starEach [] X.env) : JX px W X (.Call (.Attribute o "split" apos) [e] [] cpos) (sBm gSplit fo fe) := by
  refine PE.imp (pe_bm PySem.F.plainAttrs_str PySem.F.slot_str_split PySem.F.type_str_split mt_split ho (pa_cons he pa_nil hs) hbase hfew hline hs rfl) fun σ H Q ⟨M, F, τ, s, p⟩ => rdE_bind s p fun d τ1 F1 H1 v g1 s1 rv p1 => ?_
  cases d <;> first | (exact p1.elim) | skip
  rename_i x
  cases rv
  refine ⟨rfl, ?_⟩
  refine rdE_bind s1 p1 fun d2 τ2 F2 H2 v2 g2 s2 rv2 p2 => ?_
  cases eg : gSplit (.str x) d2 with
  | none => simp only [eg] at p2; exact p2.elim
  | some r =>
    simp only [eg] at p2
    have pw := p2.pw s2
    cases d2 <;> first | (cases eg; done) | skip
    rename_i y
    obtain ⟨c, rfl⟩ := ite_some (show (if y.length ≠ 0 ∧ x.length ≤ lim then some (PR.o (.l ((Txt.split (stO x) (stO y)).map fun z => .str z.cps.toList))) else none) = some r from eg)
    cases rv2
    refine ⟨stO x, stO y, rfl, rfl, by rw [stO_len]; simp [c.1], by rw [stO_len, sizeLine_eq]; have := c.2; simp only [lim] at this; omega, fun p hp => ?_⟩
    exact pw p (.lst _) F2 H2 (.refl s2.sub) hp (.l (strs_lay _))
end
theorem evl11 : (∀ g fo fe τ, sBm g fo fe τ = (fo τ).bind fun d τ1 => match d with
  | .str x => (fe τ1).bind fun e τ2 => (match g (.str x) e with
    | some r => .ok r τ2
    | none => .stuck)
  | _ => .stuck) := fun _ _ _ _ => rfl
end U
end

section
set_option Elab.async false
set_option linter.all false
set_option maxRecDepth 100000
namespace U
open PySem PySem.Spec PyProof.Rows L2
/-! ### typed data: names, sets of names -/
abbrev Nm := List Nat
abbrev NS := List Nm
def GN (x : Nm) : Prop := x.all (· < 0x110000) = true
def nmD (x : Nm) : D := .str x
def setT (s : NS) : D := .tup (s.map nmD)
def setL (s : NS) : D := .lst (s.map nmD)
def lotT (l : List NS) : D := .tup (l.map setT)
def lotL (l : List NS) : D := .lst (l.map setL)
/-! sorts of encoded data -/
def ins {α : Type} (lt : α → α → Bool) (a : α) : List α → List α
  | [] => [a]
  | b :: l => if !lt b a then a :: b :: l else b :: ins lt a l
def isort {α : Type} (lt : α → α → Bool) : List α → List α
  | [] => []
  | a :: l => ins lt a (isort lt l)
def dd {α : Type} [DecidableEq α] : List α → List α
  | [] => []
  | a :: l => if a ∈ l then dd l else a :: dd l
theorem ins_perm {α : Type} {lt : α → α → Bool} (a : α) : ∀ l : List α, (ins lt a l).Perm (a :: l)
  | [] => .refl _
  | b :: l => by
    unfold ins
    split
    · exact .refl _
    · exact ((ins_perm a l).cons b).trans (.swap ..)
theorem isort_perm {α : Type} {lt : α → α → Bool} : ∀ l : List α, (isort lt l).Perm l
  | [] => .refl _
  | a :: l => (ins_perm a _).trans ((isort_perm l).cons a)
theorem dd_mem {α : Type} [DecidableEq α] : ∀ {l : List α} {a : α}, a ∈ dd l ↔ a ∈ l
  | [], a => Iff.rfl
  | b :: l, a => by
    unfold dd
    split
    · rename_i h
      rw [dd_mem, List.mem_cons]
      exact ⟨.inr, fun z => z.elim (fun e => e ▸ h) id⟩
    · rw [List.mem_cons, List.mem_cons, dd_mem]
theorem dd_nodup {α : Type} [DecidableEq α] : ∀ l : List α, (dd l).Nodup
  | [] => List.nodup_nil
  | b :: l => by
    unfold dd
    split
    · exact dd_nodup l
    · rename_i h
      exact List.nodup_cons.mpr ⟨fun z => h (dd_mem.mp z), dd_nodup l⟩
theorem dd_id {α : Type} [DecidableEq α] : ∀ {l : List α}, l.Nodup → dd l = l
  | [], _ => rfl
  | a :: l, h => by
    obtain ⟨h1, h2⟩ := List.nodup_cons.mp h
    unfold dd
    rw [if_neg h1, dd_id h2]
/-- a strict order -/
structure Ord {α : Type} (lt : α → α → Bool) : Prop where
  irr : ∀ a, lt a a = false
  tr : ∀ a b c, lt a b = true → lt b c = true → lt a c = true
  tri : ∀ a b, lt a b = true ∨ a = b ∨ lt b a = true
def Up {α : Type} (lt : α → α → Bool) (l : List α) : Prop := l.Pairwise fun a b => lt a b = true
theorem Ord.asym {α : Type} {lt : α → α → Bool} (O : Ord lt) {a b : α} (h : lt a b = true) : lt b a = false := by
  cases q : lt b a with
  | false => rfl
  | true => rw [← O.irr a, ← O.tr a b a h q]
theorem ins_up {α : Type} {lt : α → α → Bool} (O : Ord lt) {a : α} : ∀ {l : List α}, a ∉ l → Up lt l → Up lt (ins lt a l)
  | [], _, _ => List.pairwise_singleton _ _
  | b :: l, hn, h => by
    obtain ⟨h1, h2⟩ := List.pairwise_cons.mp h
    have hab : a ≠ b := fun e => hn (e ▸ List.mem_cons_self ..)
    unfold ins
    cases q : lt b a with
    | false =>
      have hlt : lt a b = true := by
        rcases O.tri a b with z | z | z
        · exact z
        · exact absurd z hab
        · rw [q] at z; cases z
      refine List.pairwise_cons.mpr ⟨fun x hx => ?_, h⟩
      rcases List.mem_cons.mp hx with rfl | hx
      · exact hlt
      · exact O.tr _ _ _ hlt (h1 x hx)
    | true =>
      refine List.pairwise_cons.mpr ⟨fun x hx => ?_, ins_up O (fun z => hn (List.mem_cons_of_mem _ z)) h2⟩
      rcases List.mem_cons.mp ((ins_perm a l).mem_iff.mp hx) with rfl | hx
      · exact q
      · exact h1 x hx
theorem isort_up {α : Type} {lt : α → α → Bool} (O : Ord lt) : ∀ {l : List α}, l.Nodup → Up lt (isort lt l)
  | [], _ => List.Pairwise.nil
  | a :: l, h => by
    obtain ⟨h1, h2⟩ := List.nodup_cons.mp h
    exact ins_up O (fun z => h1 ((isort_perm l).mem_iff.mp z)) (isort_up O h2)
theorem up_nodup {α : Type} {lt : α → α → Bool} (O : Ord lt) {l : List α} (h : Up lt l) : l.Nodup := h.imp fun {a b} q e => by subst e; rw [O.irr] at q; cases q
theorem up_one {α : Type} {lt : α → α → Bool} (O : Ord lt) {l m : List α} (hl : Up lt l) (hm : Up lt m) (h : ∀ x, x ∈ l ↔ x ∈ m) : l = m :=
  sorted_one (le := fun a b => lt a b = true) ((List.perm_ext_iff_of_nodup (up_nodup O hl) (up_nodup O hm)).mpr h) hl hm fun a _ b _ h1 h2 => by rw [O.asym h1] at h2; cases h2
/-- the set of some, as a list -/
def sof' {α : Type} [DecidableEq α] (lt : α → α → Bool) (l : List α) : List α := isort lt (dd l)
theorem sof_mem {α : Type} [DecidableEq α] {lt : α → α → Bool} {l : List α} {a : α} : a ∈ sof' lt l ↔ a ∈ l := by
  unfold sof'
  rw [(isort_perm _).mem_iff, dd_mem]
theorem sof_up {α : Type} [DecidableEq α] {lt : α → α → Bool} (O : Ord lt) (l : List α) : Up lt (sof' lt l) := isort_up O (dd_nodup l)
theorem sof_eq {α : Type} [DecidableEq α] {lt : α → α → Bool} (O : Ord lt) {l m : List α} (h : ∀ x, x ∈ l ↔ x ∈ m) : sof' lt l = sof' lt m := up_one O (sof_up O l) (sof_up O m) fun x => by rw [sof_mem, sof_mem, h x]
theorem sof_id {α : Type} [DecidableEq α] {lt : α → α → Bool} (O : Ord lt) {l : List α} (h : Up lt l) : sof' lt l = l := up_one O (sof_up O l) h fun x => sof_mem
theorem isort_sof {α : Type} [DecidableEq α] {lt : α → α → Bool} (l : List α) (h : l.Nodup) : isort lt l = sof' lt l := by unfold sof'; rw [dd_id h]
/-! from typed data to D -/
theorem insD_map {α : Type} {lt : α → α → Bool} {enc : α → D} (h : ∀ a b, (enc a).lt (enc b) = lt a b) (a : α) : ∀ l : List α, insD (enc a) (l.map enc) = (ins lt a l).map enc
  | [] => rfl
  | b :: l => by
    rw [List.map_cons]
    unfold insD ins leD
    rw [h]
    cases lt b a with
    | false => rfl
    | true => simp only [Bool.not_true, Bool.false_eq_true, if_false, List.map_cons]; rw [insD_map h a l]
theorem sortD_map {α : Type} {lt : α → α → Bool} {enc : α → D} (h : ∀ a b, (enc a).lt (enc b) = lt a b) : ∀ l : List α, sortD (l.map enc) = (isort lt l).map enc
  | [] => rfl
  | a :: l => by
    rw [List.map_cons]
    show insD (enc a) (sortD (l.map enc)) = _
    rw [sortD_map h l, insD_map h]; rfl
def inB {α : Type} [DecidableEq α] (a : α) (l : List α) : Bool := decide (a ∈ l)
theorem inB_iff {α : Type} [DecidableEq α] {a : α} {l : List α} : inB a l = true ↔ a ∈ l := by unfold inB; exact decide_eq_true_iff
theorem inB_no {α : Type} [DecidableEq α] {a : α} {l : List α} : inB a l = false ↔ a ∉ l := by unfold inB; exact decide_eq_false_iff_not
theorem mem_enc {α : Type} [DecidableEq α] {enc : α → D} (h : ∀ a b, (enc a).eqb (enc b) = decide (a = b)) (a : α) (l : List α)   : (enc a).mem (l.map enc) = inB a l := by
  unfold D.mem inB
  rw [List.any_map]
  by_cases c : a ∈ l
  · rw [decide_eq_true c, List.any_eq_true]
    exact ⟨a, c, by simp [h]⟩
  · rw [decide_eq_false c, List.any_eq_false]
    intro b hb
    simp only [Function.comp, h, decide_eq_true_eq]
    exact fun e => c (e ▸ hb)
theorem dedupD_map {α : Type} [DecidableEq α] {enc : α → D} (h : ∀ a b, (enc a).eqb (enc b) = decide (a = b)) : ∀ l : List α, dedupD (l.map enc) = (dd l).map enc
  | [] => rfl
  | a :: l => by
    rw [List.map_cons]
    unfold dedupD dd
    rw [mem_enc h]
    by_cases c : a ∈ l
    · rw [inB_iff.mpr c, if_pos rfl, if_pos c, dedupD_map h l]
    · rw [inB_no.mpr c, if_neg (by simp), if_neg c, dedupD_map h l]; rfl
theorem setD_map {α : Type} [DecidableEq α] {lt : α → α → Bool} {enc : α → D} (h : ∀ a b, (enc a).eqb (enc b) = decide (a = b)) (h2 : ∀ a b, (enc a).lt (enc b) = lt a b) (l : List α) : setD (l.map enc) = (sof' lt l).map enc := by
  unfold setD sof'
  rw [dedupD_map h, sortD_map h2]
/-! the two encodings -/
def ltN (a b : Nm) : Bool := decide (a < b)
def ltS (a b : NS) : Bool := decide (a < b)
theorem nm_eqb (a b : Nm) : (nmD a).eqb (nmD b) = decide (a = b) := by
  simp only [nmD, D.eqb]
  by_cases h : a = b <;> simp [h]
theorem nm_lt (a b : Nm) : (nmD a).lt (nmD b) = ltN a b := by simp only [nmD, D.lt, ltN]
theorem nms_eqb : ∀ a b : NS, D.eqbL (a.map nmD) (b.map nmD) = decide (a = b)
  | [], [] => by simp [D.eqbL]
  | [], b :: bs => by simp [D.eqbL]
  | a :: as, [] => by simp [D.eqbL]
  | a :: as, b :: bs => by
    simp only [List.map_cons, D.eqbL, nm_eqb, nms_eqb as bs]
    by_cases h : a = b <;> by_cases h' : as = bs <;> simp [h, h']
theorem set_eqb (a b : NS) : (setT a).eqb (setT b) = decide (a = b) := by simp only [setT, D.eqb]; exact nms_eqb a b
theorem nms_lt : ∀ a b : NS, D.ltL (a.map nmD) (b.map nmD) = decide (a < b)
  | [], [] => by simp [D.ltL]
  | [], b :: bs => by simp [D.ltL]
  | a :: as, [] => by simp [D.ltL]
  | a :: as, b :: bs => by
    simp only [List.map_cons, D.ltL, nm_eqb, nms_lt as bs, nm_lt, ltN]
    by_cases h : a = b
    · subst h; simp [List.cons_lt_cons_iff]
    · simp [h, List.cons_lt_cons_iff]
theorem set_lt (a b : NS) : (setT a).lt (setT b) = ltS a b := by simp only [setT, D.lt, ltS]; exact nms_lt a b
theorem ordNat : ∀ a b : Nm, a < b ∨ a = b ∨ b < a := fun a b => by
  rcases Classical.em (a < b) with h | h
  · exact .inl h
  · rcases Classical.em (b < a) with h' | h'
    · exact .inr (.inr h')
    · exact .inr (.inl (List.le_antisymm (List.not_lt.mp h') (List.not_lt.mp h)))
theorem oN : Ord ltN := ⟨fun a => by simp [ltN, List.lt_irrefl], fun a b c h1 h2 => by simp only [ltN, decide_eq_true_eq] at *; exact List.lt_trans h1 h2, fun a b => by simp only [ltN, decide_eq_true_eq]; exact ordNat a b⟩
theorem oS : Ord ltS := ⟨fun a => by simp [ltS, List.lt_irrefl], fun a b c h1 h2 => by simp only [ltS, decide_eq_true_eq] at *; exact List.lt_trans h1 h2, fun a b => by
  simp only [ltS, decide_eq_true_eq]
  rcases Classical.em (a < b) with h | h
  · exact .inl h
  · rcases Classical.em (b < a) with h' | h'
    · exact .inr (.inr h')
    · exact .inr (.inl (List.le_antisymm (List.not_lt.mp h') (List.not_lt.mp h)))⟩
end U
end

section
set_option Elab.async false
set_option linter.all false
set_option maxRecDepth 100000
namespace U
open PySem PySem.Spec PyProof.Rows L2
/-! ### small facts for readings -/
theorem nd0 : ([] : List Nat).Nodup = True := by simp
theorem nd1 (i : Nat) : [i].Nodup = True := by simp
theorem lim_big {n : Nat} (h : n ≤ 1000) : n ≤ lim := Nat.le_trans h (by decide)
theorem limE : (0 ≤ lim) = True ∧ (1 ≤ lim) = True ∧ (2 ≤ lim) = True ∧ (3 ≤ lim) = True ∧ (4 ≤ lim) = True ∧ (5 ≤ lim) = True ∧ (6 ≤ lim) = True ∧ (7 ≤ lim) = True ∧ (8 ≤ lim) = True ∧ (9 ≤ lim) = True ∧ (10 ≤ lim) = True ∧ (11 ≤ lim) = True ∧ (12 ≤ lim) = True := by
  repeat' apply And.intro
  all_goals exact eq_true (by decide)
theorem run_seq {S R : T → SR} {τ t : T} {as : List Sl} {X : DR} (h : S τ = .nx t) (h2 : DR.of (R t) as = X) : DR.of (sSeq S R τ) as = X := by
  show DR.of ((S τ).then R) as = X
  rw [h]; exact h2
theorem seq_nx {S R : T → SR} {τ t : T} {X : SR} (h : S τ = .nx t) (h2 : R t = X) : sSeq S R τ = X := by
  show (S τ).then R = X
  rw [h]; exact h2
theorem cutA_to {α : Type} (xs : List α) (k : Nat) : cutA xs none (some (k : Int)) = xs.take k := by
  unfold cutA
  rw [HT.sIx_nat, HT.sIx_none, List.drop_zero, Nat.sub_zero]
  rw [Nat.min_def]
  split
  · rfl
  · rw [List.take_of_length_le (Nat.le_refl _), List.take_of_length_le (by omega)]
theorem cutA_from {α : Type} (xs : List α) (k : Nat) : cutA xs (some (k : Int)) none = xs.drop k := by
  unfold cutA
  rw [HT.sIx_nat, HT.sIx_none]
  rw [List.take_of_length_le (by rw [List.length_drop]; omega)]
  rw [Nat.min_def]
  split
  · rfl
  · rw [List.drop_of_length_le (Nat.le_refl _), List.drop_of_length_le (by omega)]
/-- a comprehension with a test, its state unchanged -/
theorem compL_filt {α : Type} {f : D → T → Rs (Option D)} {g h : α → D} {q : α → Bool} {τ : T} (xs : List α) (hf : ∀ x ∈ xs, f (g x) τ = .ok (if q x then some (h x) else none) τ) (hl : xs.length ≤ lim) : compL f (xs.map g) τ [] = .ok ((xs.filter q).map h) τ := by
  have key : ∀ (xs : List α) (acc : List D), (∀ x ∈ xs, f (g x) τ = .ok (if q x then some (h x) else none) τ) → acc.length + xs.length ≤ lim → compL f (xs.map g) τ acc = .ok (acc ++ (xs.filter q).map h) τ := fun xs => by
    induction xs with
    | nil => intro acc _ _; simp [compL]
    | cons x xs ih =>
      intro acc hf hl
      rw [List.length_cons] at hl
      have hlt : acc.length < lim := by omega
      have e := hf x (List.mem_cons_self ..)
      have ih' := fun a b => ih a (fun z hz => hf z (List.mem_cons_of_mem _ hz)) b
      rw [List.map_cons]
      cases c : q x with
      | true =>
        rw [c] at e
        show (match f (g x) τ with
          | .ok (some z) τ1 => if acc.length < lim then compL f (xs.map g) τ1 (acc ++ [z]) else .stuck
          | .ok none τ1 => compL f (xs.map g) τ1 acc
          | _ => .stuck) = _
        rw [e]
        show (if acc.length < lim then compL f (xs.map g) τ (acc ++ [h x]) else .stuck) = _
        rw [if_pos hlt, ih' _ (by rw [List.length_append, List.length_singleton]; omega), List.filter_cons_of_pos c]
        simp
      | false =>
        rw [c] at e
        show (match f (g x) τ with
          | .ok (some z) τ1 => if acc.length < lim then compL f (xs.map g) τ1 (acc ++ [z]) else .stuck
          | .ok none τ1 => compL f (xs.map g) τ1 acc
          | _ => .stuck) = _
        rw [e]
        show compL f (xs.map g) τ acc = _
        rw [ih' _ (by omega), List.filter_cons_of_neg (by simp [c])]
  rw [key xs [] hf (by rw [List.length_nil]; omega)]
  rfl
theorem compL_over {α : Type} {f : D → T → Rs (Option D)} {g h : α → D} {τ : T} (xs : List α) (hf : ∀ x ∈ xs, f (g x) τ = .ok (some (h x)) τ) (hl : xs.length ≤ lim) : compL f (xs.map g) τ [] = .ok (xs.map h) τ := by
  have e := compL_filt (f := f) (g := g) (h := h) (q := fun _ => true) (τ := τ) xs (fun x hx => by rw [hf x hx]; rfl) hl
  rw [List.filter_eq_self.mpr (fun _ _ => rfl)] at e
  exact e
theorem rng_mem {n : Nat} {d : D} (h : d ∈ rng 0 n) : ∃ i : Nat, i < n ∧ d = .int i := by
  unfold rng at h
  obtain ⟨i, hi, e⟩ := List.mem_map.mp h
  exact ⟨i, List.mem_range.mp hi, by rw [← e, Int.zero_add]⟩
theorem rng_eq (n : Nat) : rng 0 n = (List.range n).map fun (j : Nat) => D.int (j : Int) := by
  unfold rng; exact List.map_congr_left fun j _ => by rw [Int.zero_add]
theorem small62 {n : Nat} (h : n ≤ 1000) : ((n : Int).natAbs < 2 ^ 62) = True := eq_true (by omega)
theorem toNatI (n : Nat) : (n : Int).toNat = n := by omega
theorem popAt_eq (ds : List D) (i : Int) : mPopAt (.l ds) [.int i] = if i.natAbs < 2 ^ 63 then (match seqIndex? i ds.length with
    | some k => (ds[k]?).map fun d => (d, .l (ds.eraseIdx k))
    | none => none) else none := rfl
theorem seqIx {n j : Nat} (h : j < n) : seqIndex? (j : Int) n = some j := by
  unfold seqIndex?
  split <;> first | (split <;> first | rfl | omega) | omega | skip
  all_goals first | (simp; omega) | omega | simp_all
theorem eraseIdx_mp {α β : Type} (f : α → β) : ∀ (l : List α) (j : Nat), (l.map f).eraseIdx j = (l.eraseIdx j).map f
  | [], _ => rfl
  | a :: l, 0 => rfl
  | a :: l, j + 1 => by simp [eraseIdx_mp f l j]
theorem popAt_nm {rest : NS} {j : Nat} (hj : j < rest.length) (hl : rest.length ≤ 60) : mPopAt (.l (rest.map nmD)) [.int (j : Int)] = some (nmD rest[j], .l ((rest.eraseIdx j).map nmD)) := by
  rw [popAt_eq, if_pos (by omega), seqIx (by rw [List.length_map]; exact hj)]
  simp only [List.getElem?_map, List.getElem?_eq_getElem hj, eraseIdx_mp]
  rfl
/-! ### hard (tuples) or soft (lists) -/
def sq (h : Bool) (xs : List D) : D := if h then .tup xs else .lst xs
theorem sq_items (h : Bool) (xs : List D) : (sq h xs).items = some xs := by cases h <;> rfl
theorem sq_gTp (h : Bool) (n : Nat) (g : List D → T → Option T) (xs : List D) (τ : T) : gTp n g (sq h xs) τ = if xs.length = n then g xs τ else none := by cases h <;> rfl
theorem sq_gIn (h : Bool) (neg : Bool) (d : D) (xs : List D) : gIn neg d (sq h xs) = if d.ok 60 && D.okL xs 60 then some (.d (.bl (neg != d.mem xs))) else none := by cases h <;> rfl
theorem sq_tuple (h : Bool) (xs : List D) : gTuple (sq h xs) = some (.d (.tup xs)) := by cases h <;> rfl
theorem sq_len (h : Bool) (xs : List D) : gLen (sq h xs) = some (.d (.int xs.length)) := by cases h <;> rfl
theorem sq_gSS (h : Bool) (xs : List D) : gSS (sq h xs) = if okSet xs then some (.o (.l (setD xs))) else none := by cases h <;> rfl
theorem sq_gSorted (h : Bool) (xs : List D) : gSorted (sq h xs) = if canSort xs then some (.o (.l (sortD xs))) else none := by cases h <;> rfl
abbrev Bk := List (Nm × List NS)
def setE (h : Bool) (s : NS) : D := sq h (s.map nmD)
def lotE (h : Bool) (l : List NS) : D := sq h (l.map (setE h))
def rowE (h : Bool) (r : Nm × List NS) : D := sq h [nmD r.1, lotE h r.2]
def bkE (h : Bool) (b : Bk) : D := sq h (b.map (rowE h))
theorem setE_T : setE true = setT := rfl
/-! good names -/
def GS (s : NS) : Prop := ∀ x ∈ s, GN x
def GL (l : List NS) : Prop := ∀ s ∈ l, GS s
def GB (b : Bk) : Prop := ∀ r ∈ b, GN r.1 ∧ GL r.2
theorem nm_ok {x : Nm} (h : GN x) (n : Nat) : (nmD x).ok n = true := by
  cases n <;> simpa [nmD, D.ok, GN] using h
theorem nms_ok {s : NS} (h : GS s) (n : Nat) : D.okL (s.map nmD) n = true := okL_of fun d hd => by
  obtain ⟨x, hx, rfl⟩ := List.mem_map.mp hd
  exact nm_ok (h x hx) n
theorem sq_ok (h : Bool) (xs : List D) (n : Nat) : (sq h xs).ok (n + 1) = D.okL xs n := by cases h <;> simp [sq, D.ok]
theorem set_ok {s : NS} (h : GS s) (b : Bool) (n : Nat) : (setE b s).ok (n + 1) = true := by unfold setE; rw [sq_ok]; exact nms_ok h n
theorem lot_ok {l : List NS} (h : GL l) (b : Bool) (n : Nat) : (lotE b l).ok (n + 2) = true := by
  unfold lotE
  rw [sq_ok]
  refine okL_of fun d hd => ?_
  obtain ⟨x, hx, rfl⟩ := List.mem_map.mp hd
  exact set_ok (h x hx) b n
/-- x in s -/
theorem gIn_nm (h neg : Bool) {x : Nm} {s : NS} (hx : GN x) (hs : GS s) : gIn neg (nmD x) (setE h s) = some (.d (.bl (neg != inB x s))) := by
  unfold setE
  rw [sq_gIn, nm_ok hx, nms_ok hs, mem_enc nm_eqb, Bool.and_self, if_pos rfl]
theorem nm_like (a b : Nm) : (nmD a).like (nmD b) = true := by simp [nmD, D.like]
theorem nms_like : ∀ a b : NS, D.likeL (a.map nmD) (b.map nmD) = true
  | [], _ => by simp [D.likeL]
  | a :: as, [] => by simp [D.likeL]
  | a :: as, b :: bs => by simp only [List.map_cons, D.likeL, nm_like, nms_like as bs, Bool.and_self]
theorem set_like (a b : NS) : (setT a).like (setT b) = true := by simp only [setT, D.like]; exact nms_like a b
theorem sort_nms {s : NS} (hs : GS s) (hl : s.length ≤ lim) : CanSort (s.map nmD) where
  len := by rw [List.length_map]; exact hl
  ok := fun d hd => by obtain ⟨x, hx, rfl⟩ := List.mem_map.mp hd; exact nm_ok (hs x hx) 60
  non := fun d hd => by obtain ⟨x, hx, rfl⟩ := List.mem_map.mp hd; rfl
  like := fun d hd e he => by
    obtain ⟨x, _, rfl⟩ := List.mem_map.mp hd
    obtain ⟨y, _, rfl⟩ := List.mem_map.mp he
    exact nm_like x y
theorem sort_sets {l : List NS} (hs : GL l) (hl : l.length ≤ lim) : CanSort (l.map setT) where
  len := by rw [List.length_map]; exact hl
  ok := fun d hd => by obtain ⟨x, hx, rfl⟩ := List.mem_map.mp hd; exact set_ok (hs x hx) true 59
  non := fun d hd => by obtain ⟨x, hx, rfl⟩ := List.mem_map.mp hd; rfl
  like := fun d hd e he => by
    obtain ⟨x, _, rfl⟩ := List.mem_map.mp hd
    obtain ⟨y, _, rfl⟩ := List.mem_map.mp he
    exact set_like x y
/-- sorted(names) -/
theorem gSorted_nms (h : Bool) {s : NS} (hs : GS s) (hl : s.length ≤ lim) : gSorted (sq h (s.map nmD)) = some (.o (.l ((isort ltN s).map nmD))) := by
  rw [sq_gSorted, canSort_iff (sort_nms hs hl), sortD_map nm_lt]; rfl
theorem hs_nms : ∀ (s : NS) (n : Nat), D.hsL (s.map nmD) n = true
  | [], n => rfl
  | x :: s, n => by simp only [List.map_cons, D.hsL, hs_nms s n, Bool.and_true]; simp [nmD, D.hs]
/-- sorted(set(sets)) -/
theorem gSS_sets (h : Bool) {l : List NS} (hs : GL l) (hl : l.length ≤ lim) (few : (dd l).length < 64) : gSS (sq h (l.map setT)) = some (.o (.l ((sof' ltS l).map setT))) := by
  have ok : okSet (l.map setT) = true := by
    unfold okSet
    rw [canSort_iff (sort_sets hs hl), dedupD_map set_eqb, List.length_map, decide_eq_true few]
    have h1 : (l.map setT).all isTup = true := List.all_eq_true.mpr fun d hd => by obtain ⟨x, _, rfl⟩ := List.mem_map.mp hd; rfl
    have h2 : ((l.map setT).all fun d => d.hs 8) = true := List.all_eq_true.mpr fun d hd => by
      obtain ⟨x, _, rfl⟩ := List.mem_map.mp hd
      simp only [setT, D.hs]; exact hs_nms x 7
    rw [h1, h2]
    simp
  rw [sq_gSS, ok, setD_map set_eqb set_lt]; rfl
/-- s == t -/
theorem gEq_sets (neg : Bool) {a b : NS} (ha : GS a) (hb : GS b) : gEq neg (setT a) (setT b) = some (.d (.bl (neg != decide (a = b)))) := by
  unfold gEq
  rw [show (setT a).ok 60 = true from set_ok ha true 59, show (setT b).ok 60 = true from set_ok hb true 59, set_eqb]; rfl
/-- xs == [] -/
theorem gEq_nil (neg : Bool) {xs : List D} (h : D.okL xs 59 = true) : gEq neg (.lst xs) (.lst []) = some (.d (.bl (neg != xs.isEmpty))) := by
  unfold gEq
  have h1 : (D.lst xs).ok 60 = true := by simpa [D.ok] using h
  have h2 : (D.lst []).ok 60 = true := by simp [D.ok, D.okL]
  rw [h1, h2]
  cases xs <;> simp [D.eqb, D.eqbL]
end U
end

section
set_option Elab.async false
set_option linter.all false
set_option maxRecDepth 100000
namespace U
open PySem PySem.Spec PyProof.Rows L2
/-! ### typed data -/
inductive Kd where
  /-- a tuple (true), a list (false) -/
  | b (h : Bool)
  /-- a tuple whose object is known to be plain -/
  | p
def sk : Kd → List D → D
  | .b h, xs => sq h xs
  | .p, xs => .ptp xs
inductive Ty where
  | int | bl | nm | non
  | seq (k : Kd) (t : Ty)
  | pr (h : Bool) (a b : Ty)
  | tr (h : Bool) (a b c : Ty)
@[reducible] def Ty.V : Ty → Type
  | .int => Int
  | .bl => Bool
  | .nm => List Nat
  | .non => Unit
  | .seq _ t => List t.V
  | .pr _ a b => a.V × b.V
  | .tr _ a b c => a.V × b.V × c.V
def decV : (t : Ty) → DecidableEq t.V
  | .int => inferInstanceAs (DecidableEq Int)
  | .bl => inferInstanceAs (DecidableEq Bool)
  | .nm => inferInstanceAs (DecidableEq (List Nat))
  | .non => inferInstanceAs (DecidableEq Unit)
  | .seq _ t => @instDecidableEqList _ (decV t)
  | .pr _ a b => @instDecidableEqProd _ _ (decV a) (decV b)
  | .tr _ a b c => @instDecidableEqProd _ _ (decV a) (@instDecidableEqProd _ _ (decV b) (decV c))
def enc : (t : Ty) → t.V → D
  | .int, i => .int i
  | .bl, b => .bl b
  | .nm, x => .str x
  | .non, _ => .non
  | .seq k t, l => sk k (l.map (enc t))
  | .pr h a b, p => sq h [enc a p.1, enc b p.2]
  | .tr h a b c, p => sq h [enc a p.1, enc b p.2.1, enc c p.2.2]
/-- good names; sequences of at most so many, depth by depth -/
def Good : (t : Ty) → List Nat → t.V → Prop
  | .int, _, _ => True
  | .bl, _, _ => True
  | .nm, _, x => GN x
  | .non, _, _ => True
  | .seq _ t, b, l => l.length ≤ b.headD 0 ∧ ∀ x ∈ l, Good t b.tail x
  | .pr _ s t, b, p => Good s b p.1 ∧ Good t b p.2
  | .tr _ r s t, b, p => Good r b p.1 ∧ Good s b p.2.1 ∧ Good t b p.2.2
/-- no plain tuples within -/
def Ty.np : Ty → Bool
  | .seq (.b _) t => t.np
  | .seq .p _ => false
  | .pr _ a b => a.np && b.np
  | .tr _ a b c => a.np && (b.np && c.np)
  | _ => true
theorem np_seq {k : Kd} {t : Ty} (h : (Ty.seq k t).np = true) : (∃ g, k = .b g) ∧ t.np = true := by
  cases k with
  | b g => exact ⟨⟨g, rfl⟩, h⟩
  | p => cases h
theorem np_pr {g : Bool} {a b : Ty} (h : (Ty.pr g a b).np = true) : a.np = true ∧ b.np = true := Bool.and_eq_true_iff.mp h
theorem np_tr {g : Bool} {a b c : Ty} (h : (Ty.tr g a b c).np = true) : a.np = true ∧ b.np = true ∧ c.np = true := ⟨(Bool.and_eq_true_iff.mp h).1, Bool.and_eq_true_iff.mp (Bool.and_eq_true_iff.mp h).2⟩
def Ty.dp : Ty → Nat
  | .seq _ t => t.dp + 1
  | .pr _ a b => max a.dp b.dp + 1
  | .tr _ a b c => max a.dp (max b.dp c.dp) + 1
  | _ => 0
theorem enc_ok : ∀ (t : Ty) {b : List Nat} {v : t.V} {n : Nat}, t.np = true → Good t b v → t.dp ≤ n → (enc t v).ok n = true
  | .int, _, _, _, _, _, _ => rfl
  | .bl, _, _, _, _, _, _ => rfl
  | .nm, _, x, n, _, h, _ => nm_ok h n
  | .non, _, _, _, _, _, _ => rfl
  | .seq k t, b, l, 0, _, g, d => by simp [Ty.dp] at d
  | .seq k t, b, l, n + 1, z, g, d => by
    obtain ⟨⟨h, rfl⟩, z⟩ := np_seq z
    show (sq h (l.map (enc t))).ok (n + 1) = true
    rw [sq_ok]
    refine okL_of fun d' hd => ?_
    obtain ⟨x, hx, rfl⟩ := List.mem_map.mp hd
    exact enc_ok t z (g.2 x hx) (by simp only [Ty.dp] at d; omega)
  | .pr h s t, b, p, 0, _, g, d => by simp [Ty.dp] at d
  | .pr h s t, b, p, n + 1, z, g, d => by
    obtain ⟨z1, z2⟩ := np_pr z
    unfold enc
    rw [sq_ok]
    simp only [Ty.dp] at d
    simp only [D.okL, enc_ok s (n := n) z1 g.1 (by omega), enc_ok t (n := n) z2 g.2 (by omega), Bool.and_self]
  | .tr h r s t, b, p, 0, _, g, d => by simp [Ty.dp] at d
  | .tr h r s t, b, p, n + 1, z, g, d => by
    obtain ⟨z1, z2, z3⟩ := np_tr z
    unfold enc
    rw [sq_ok]
    simp only [Ty.dp] at d
    simp only [D.okL, enc_ok r (n := n) z1 g.1 (by omega), enc_ok s (n := n) z2 g.2.1 (by omega), enc_ok t (n := n) z3 g.2.2 (by omega), Bool.and_self]
theorem sq_eqb (h : Bool) (xs ys : List D) : (sq h xs).eqb (sq h ys) = D.eqbL xs ys := by cases h <;> simp [sq, D.eqb]
theorem sq_lt (h : Bool) (xs ys : List D) : (sq h xs).lt (sq h ys) = D.ltL xs ys := by cases h <;> simp [sq, D.lt]
theorem sq_like (h : Bool) (xs ys : List D) : (sq h xs).like (sq h ys) = D.likeL xs ys := by cases h <;> simp [sq, D.like]
theorem eqbL_map {α : Type} [DecidableEq α] {f : α → D} (h : ∀ a b, (f a).eqb (f b) = decide (a = b)) : ∀ a b : List α, D.eqbL (a.map f) (b.map f) = decide (a = b)
  | [], [] => by simp [D.eqbL]
  | [], b :: bs => by simp [D.eqbL]
  | a :: as, [] => by simp [D.eqbL]
  | a :: as, b :: bs => by
    simp only [List.map_cons, D.eqbL, h, eqbL_map h as bs]
    by_cases q : a = b <;> by_cases q' : as = bs <;> simp [q, q']
theorem likeL_map {α : Type} {f : α → D} (h : ∀ a b, (f a).like (f b) = true) : ∀ a b : List α, D.likeL (a.map f) (b.map f) = true
  | [], _ => by simp [D.likeL]
  | a :: as, [] => by simp [D.likeL]
  | a :: as, b :: bs => by simp only [List.map_cons, D.likeL, h, likeL_map h as bs, Bool.and_self]
theorem enc_eqb : ∀ (t : Ty) (a b : t.V), t.np = true → (enc t a).eqb (enc t b) = (decV t a b).decide
  | .int, a, b, _ => by
    simp only [enc, D.eqb]
    by_cases h : a = b
    · simp [h]
    · simp [h]
  | .bl, a, b, _ => by
    simp only [enc, D.eqb]
    cases a <;> cases b <;> rfl
  | .nm, a, b, _ => by
    have := nm_eqb a b
    simp only [nmD] at this
    simp only [enc]
    rw [this]
    congr
  | .non, _, _, _ => rfl
  | .seq k t, a, b, z => by
    obtain ⟨⟨h, rfl⟩, z⟩ := np_seq z
    letI := decV t
    show (sq h (a.map (enc t))).eqb (sq h (b.map (enc t))) = _
    rw [sq_eqb, eqbL_map (fun a b => by rw [enc_eqb t a b z]) a b]
    congr
  | .pr h s t, (a, a'), (b, b'), z => by
    obtain ⟨z1, z2⟩ := np_pr z
    letI := decV s
    letI := decV t
    simp only [enc]
    rw [sq_eqb]
    simp only [D.eqbL, enc_eqb s _ _ z1, enc_eqb t _ _ z2, Bool.and_true]
    have e : (decV (.pr h s t) (a, a') (b, b')).decide = (decide (a = b) && decide (a' = b')) := by
      rw [← Bool.decide_and]
      refine decide_eq_decide.mpr ?_
      exact Prod.mk.injEq .. ▸ Iff.rfl
    rw [e]
  | .tr h r s t, (a, a', a''), (b, b', b''), z => by
    obtain ⟨z1, z2, z3⟩ := np_tr z
    letI := decV r
    letI := decV s
    letI := decV t
    simp only [enc]
    rw [sq_eqb]
    simp only [D.eqbL, enc_eqb r _ _ z1, enc_eqb s _ _ z2, enc_eqb t _ _ z3, Bool.and_true]
    have e : (decV (.tr h r s t) (a, a', a'') (b, b', b'')).decide = (decide (a = b) && (decide (a' = b') && decide (a'' = b''))) := by
      rw [← Bool.decide_and, ← Bool.decide_and]
      refine decide_eq_decide.mpr ?_
      simp only [Prod.mk.injEq]
    rw [e]
end U
end

section
set_option Elab.async false
set_option linter.all false
set_option maxRecDepth 100000
namespace U
open PySem PySem.Spec PyProof.Rows L2
theorem enc_eq (t : Ty) [DecidableEq t.V] (z : t.np = true) (a b : t.V) : (enc t a).eqb (enc t b) = decide (a = b) := by
  rw [enc_eqb t a b z]
  congr
/-! ### the order -/
def ltLx {α : Type} (eq lt : α → α → Bool) : List α → List α → Bool
  | [], [] => false
  | [], _ :: _ => true
  | _ :: _, [] => false
  | a :: as, b :: bs => if eq a b then ltLx eq lt as bs else lt a b
def eqT (t : Ty) (a b : t.V) : Bool := (decV t a b).decide
theorem eqT_iff {t : Ty} {a b : t.V} : eqT t a b = true ↔ a = b := by unfold eqT; exact @decide_eq_true_iff _ (decV t a b)
def ltT : (t : Ty) → t.V → t.V → Bool
  | .int, a, b => decide (a < b)
  | .bl, a, b => !a && b
  | .nm, a, b => ltN a b
  | .non, _, _ => false
  | .seq _ t, a, b => ltLx (eqT t) (ltT t) a b
  | .pr _ s t, a, b => if eqT s a.1 b.1 then (if eqT t a.2 b.2 then false else ltT t a.2 b.2) else ltT s a.1 b.1
  | .tr _ r s t, a, b => if eqT r a.1 b.1 then (if eqT s a.2.1 b.2.1 then (if eqT t a.2.2 b.2.2 then false else ltT t a.2.2 b.2.2) else ltT s a.2.1 b.2.1) else ltT r a.1 b.1
/-- no None within -/
def Ty.ord : Ty → Bool
  | .non => false
  | .seq _ t => t.ord
  | .pr _ a b => a.ord && b.ord
  | .tr _ a b c => a.ord && (b.ord && c.ord)
  | _ => true
theorem ltL_map {α : Type} {f : α → D} {eq lt : α → α → Bool} (h : ∀ a b, (f a).eqb (f b) = eq a b) (h2 : ∀ a b, (f a).lt (f b) = lt a b) : ∀ a b : List α, D.ltL (a.map f) (b.map f) = ltLx eq lt a b
  | [], [] => by simp [D.ltL, ltLx]
  | [], b :: bs => by simp [D.ltL, ltLx]
  | a :: as, [] => by simp [D.ltL, ltLx]
  | a :: as, b :: bs => by simp only [List.map_cons, D.ltL, ltLx, h, h2, ltL_map h h2 as bs]
theorem enc_lt : ∀ (t : Ty) (a b : t.V), t.np = true → (enc t a).lt (enc t b) = ltT t a b
  | .int, a, b, _ => by simp only [enc, D.lt, ltT]
  | .bl, a, b, _ => by simp only [enc, D.lt, ltT]
  | .nm, a, b, _ => by
    have := nm_lt a b
    simp only [nmD] at this
    simp only [enc, ltT]; exact this
  | .non, _, _, _ => by simp only [enc, D.lt, ltT]
  | .seq k t, a, b, z => by
    obtain ⟨⟨h, rfl⟩, z⟩ := np_seq z
    show (sq h (a.map (enc t))).lt (sq h (b.map (enc t))) = _
    rw [sq_lt, ltL_map (fun a b => enc_eqb t a b z) (fun a b => enc_lt t a b z)]
    rfl
  | .pr h s t, a, b, z => by
    obtain ⟨z1, z2⟩ := np_pr z
    simp only [enc, ltT]
    rw [sq_lt]
    simp only [D.ltL, enc_eqb s _ _ z1, enc_eqb t _ _ z2, enc_lt s _ _ z1, enc_lt t _ _ z2]
    rfl
  | .tr h r s t, a, b, z => by
    obtain ⟨z1, z2, z3⟩ := np_tr z
    simp only [enc, ltT]
    rw [sq_lt]
    simp only [D.ltL, enc_eqb r _ _ z1, enc_eqb s _ _ z2, enc_eqb t _ _ z3, enc_lt r _ _ z1, enc_lt s _ _ z2, enc_lt t _ _ z3]
    rfl
theorem eqT_no {t : Ty} {a b : t.V} (h : a ≠ b) : eqT t a b = false := Bool.eq_false_iff.mpr fun z => h (eqT_iff.mp z)
theorem eqT_yes {t : Ty} (a : t.V) : eqT t a a = true := eqT_iff.mpr rfl
section
variable {α : Type} {eq lt : α → α → Bool}
theorem lx_ord (he : ∀ a b, eq a b = true ↔ a = b) (O : Ord lt) : Ord (ltLx eq lt) := by
  have ey : ∀ a, eq a a = true := fun a => (he a a).mpr rfl
  have en : ∀ a b, a ≠ b → eq a b = false := fun a b h => Bool.eq_false_iff.mpr fun z => h ((he a b).mp z)
  refine ⟨fun a => ?_, fun a b c h1 h2 => ?_, fun a b => ?_⟩
  · induction a with
    | nil => rfl
    | cons x a ih => simp only [ltLx, ey, if_true]; exact ih
  · induction a generalizing b c with
    | nil =>
      cases c with
      | nil => cases b with
        | nil => exact h1
        | cons y b => simp [ltLx] at h2
      | cons z c => rfl
    | cons x a ih =>
      cases b with
      | nil => simp [ltLx] at h1
      | cons y b =>
        cases c with
        | nil => simp [ltLx] at h2
        | cons z c =>
          simp only [ltLx] at h1 h2 ⊢
          by_cases e1 : x = y
          · subst e1
            rw [ey, if_pos rfl] at h1
            by_cases e2 : x = z
            · subst e2
              rw [ey, if_pos rfl] at h2 ⊢
              exact ih b c h1 h2
            · rw [en _ _ e2, if_neg (by simp)] at h2 ⊢; exact h2
          · rw [en _ _ e1, if_neg (by simp)] at h1
            by_cases e2 : y = z
            · subst e2
              rw [en _ _ e1, if_neg (by simp)]; exact h1
            · rw [en _ _ e2, if_neg (by simp)] at h2
              have h3 := O.tr _ _ _ h1 h2
              have e3 : x ≠ z := fun e => by subst e; rw [O.irr] at h3; cases h3
              rw [en _ _ e3, if_neg (by simp)]; exact h3
  · induction a generalizing b with
    | nil => cases b with
      | nil => exact .inr (.inl rfl)
      | cons y b => exact .inl rfl
    | cons x a ih =>
      cases b with
      | nil => exact .inr (.inr rfl)
      | cons y b =>
        by_cases e : x = y
        · subst e
          simp only [ltLx, ey, if_true]
          rcases ih b with h | h | h
          · exact .inl h
          · exact .inr (.inl (by rw [h]))
          · exact .inr (.inr h)
        · simp only [ltLx, en _ _ e, en _ _ (Ne.symm e), Bool.false_eq_true, if_false]
          rcases O.tri x y with h | h | h
          · exact .inl h
          · exact absurd h e
          · exact .inr (.inr h)
end
/-- pairs, the first ahead of the second -/
def ltPr {α β : Type} (eq lt : α → α → Bool) (eq' lt' : β → β → Bool) (a b : α × β) : Bool := if eq a.1 b.1 then (if eq' a.2 b.2 then false else lt' a.2 b.2) else lt a.1 b.1
theorem pr_ord {α β : Type} {eq lt : α → α → Bool} {eq' lt' : β → β → Bool} (he : ∀ a b, eq a b = true ↔ a = b) (he' : ∀ a b, eq' a b = true ↔ a = b) (O : Ord lt) (O' : Ord lt') : Ord (ltPr eq lt eq' lt') := by
  have ey : ∀ a, eq a a = true := fun a => (he a a).mpr rfl
  have en : ∀ a b, a ≠ b → eq a b = false := fun a b h => Bool.eq_false_iff.mpr fun z => h ((he a b).mp z)
  have ey' : ∀ a, eq' a a = true := fun a => (he' a a).mpr rfl
  have en' : ∀ a b, a ≠ b → eq' a b = false := fun a b h => Bool.eq_false_iff.mpr fun z => h ((he' a b).mp z)
  have step : ∀ a b : β, (if eq' a b then false else lt' a b) = lt' a b := fun a b => by
    by_cases e : a = b
    · subst e; rw [ey', if_pos rfl, O'.irr]
    · rw [en' _ _ e, if_neg (by simp)]
  refine ⟨fun a => ?_, fun a b c h1 h2 => ?_, fun a b => ?_⟩
  · unfold ltPr; rw [ey, if_pos rfl, step, O'.irr]
  · obtain ⟨a1, a2⟩ := a
    obtain ⟨b1, b2⟩ := b
    obtain ⟨c1, c2⟩ := c
    simp only [ltPr, step] at h1 h2 ⊢
    by_cases e1 : a1 = b1
    · subst e1
      rw [ey, if_pos rfl] at h1
      by_cases e2 : a1 = c1
      · subst e2
        rw [ey, if_pos rfl] at h2 ⊢
        exact O'.tr _ _ _ h1 h2
      · rw [en _ _ e2, if_neg (by simp)] at h2 ⊢; exact h2
    · rw [en _ _ e1, if_neg (by simp)] at h1
      by_cases e2 : b1 = c1
      · subst e2
        rw [en _ _ e1, if_neg (by simp)]; exact h1
      · rw [en _ _ e2, if_neg (by simp)] at h2
        have h3 := O.tr _ _ _ h1 h2
        have e3 : a1 ≠ c1 := fun e => by subst e; rw [O.irr] at h3; cases h3
        rw [en _ _ e3, if_neg (by simp)]; exact h3
  · obtain ⟨a1, a2⟩ := a
    obtain ⟨b1, b2⟩ := b
    simp only [ltPr, step]
    by_cases e : a1 = b1
    · subst e
      simp only [ey, if_true]
      rcases O'.tri a2 b2 with h | h | h
      · exact .inl h
      · exact .inr (.inl (by rw [h]))
      · exact .inr (.inr h)
    · simp only [en _ _ e, en _ _ (Ne.symm e), Bool.false_eq_true, if_false]
      rcases O.tri a1 b1 with h | h | h
      · exact .inl h
      · exact absurd h e
      · exact .inr (.inr h)
theorem three_if (x y z p q w : Bool) : (if x then (if y then (if z then false else p) else q) else w) = (if x then (if (y && z) then false else (if y then (if z then false else p) else q)) else w) := by
  cases x <;> cases y <;> cases z <;> rfl
theorem ordInt : Ord (fun a b : Int => decide (a < b)) := ⟨fun a => by simp, fun a b c h1 h2 => by simp only [decide_eq_true_eq] at *; omega, fun a b => by simp only [decide_eq_true_eq]; omega⟩
theorem oT : ∀ t : Ty, Ord (ltT t)
  | .int => ordInt
  | .bl => ⟨fun a => by cases a <;> rfl, fun a b c h1 h2 => by cases a <;> cases b <;> cases c <;> first | rfl | (cases h1; done) | (cases h2; done), fun a b => by cases a <;> cases b <;> first | exact .inl rfl | exact .inr (.inl rfl) | exact .inr (.inr rfl)⟩
  | .nm => oN
  | .non => ⟨fun _ => rfl, fun a b c h1 h2 => (nomatch h1), fun a b => Or.inr (Or.inl rfl)⟩
  | .seq _ t => lx_ord (fun a b => eqT_iff) (oT t)
  | .pr _ s t => pr_ord (fun a b => eqT_iff) (fun a b => eqT_iff) (oT s) (oT t)
  | .tr h r s t => by
    have O2 := pr_ord (eq := eqT s) (lt := ltT s) (eq' := eqT t) (lt' := ltT t) (fun a b => eqT_iff) (fun a b => eqT_iff) (oT s) (oT t)
    have he : ∀ a b : s.V × t.V, (eqT s a.1 b.1 && eqT t a.2 b.2) = true ↔ a = b := fun a b => by
      rw [Bool.and_eq_true, eqT_iff, eqT_iff]
      exact ⟨fun h => Prod.ext h.1 h.2, fun h => by rw [h]; exact ⟨rfl, rfl⟩⟩
    have O := pr_ord (eq := eqT r) (lt := ltT r) (eq' := fun a b : s.V × t.V => eqT s a.1 b.1 && eqT t a.2 b.2) (lt' := ltPr (eqT s) (ltT s) (eqT t) (ltT t)) (fun a b => eqT_iff) he (oT r) O2
    have e : ltT (.tr h r s t) = ltPr (eqT r) (ltT r) (fun a b : s.V × t.V => eqT s a.1 b.1 && eqT t a.2 b.2) (ltPr (eqT s) (ltT s) (eqT t) (ltT t)) := by
      funext a b
      exact three_if (eqT r a.1 b.1) (eqT s a.2.1 b.2.1) (eqT t a.2.2 b.2.2) (ltT t a.2.2 b.2.2) (ltT s a.2.1 b.2.1) (ltT r a.1 b.1)
    rw [e]; exact O
theorem enc_like : ∀ (t : Ty) (a b : t.V), t.np = true → (enc t a).like (enc t b) = true
  | .int, _, _, _ => by simp [enc, D.like]
  | .bl, _, _, _ => by simp [enc, D.like]
  | .nm, _, _, _ => by simp [enc, D.like]
  | .non, _, _, _ => by simp [enc, D.like]
  | .seq k t, a, b, z => by
    obtain ⟨⟨h, rfl⟩, z⟩ := np_seq z
    show (sq h (a.map (enc t))).like (sq h (b.map (enc t))) = true
    rw [sq_like]; exact likeL_map (fun a b => enc_like t a b z) a b
  | .pr h s t, a, b, z => by
    obtain ⟨z1, z2⟩ := np_pr z
    simp only [enc]; rw [sq_like]; simp only [D.likeL, enc_like s _ _ z1, enc_like t _ _ z2, Bool.and_self]
  | .tr h r s t, a, b, z => by
    obtain ⟨z1, z2, z3⟩ := np_tr z
    simp only [enc]; rw [sq_like]; simp only [D.likeL, enc_like r _ _ z1, enc_like s _ _ z2, enc_like t _ _ z3, Bool.and_self]
def Ty.isN : Ty → Bool
  | .non => true
  | _ => false
theorem enc_non {t : Ty} (h : t.isN = false) (a : t.V) : (enc t a).isNon = false := by
  cases t with
  | non => cases h
  | seq k t => cases k with
    | b g => cases g <;> rfl
    | p => rfl
  | pr b s t => cases b <;> rfl
  | tr b r s t => cases b <;> rfl
  | _ => rfl
/-- hashable: names, ints, tuples of such -/
def Ty.hs : Ty → Nat → Bool
  | .seq (.b h) t, n => match n with
    | 0 => false
    | n + 1 => h && t.hs n
  | .seq .p _, _ => false
  | .pr h a b, n => match n with
    | 0 => false
    | n + 1 => h && (a.hs n && b.hs n)
  | .tr h a b c, n => match n with
    | 0 => false
    | n + 1 => h && (a.hs n && (b.hs n && c.hs n))
  | _, _ => true
theorem hsL_map {α : Type} {f : α → D} {n : Nat} (h : ∀ a, (f a).hs n = true) : ∀ l : List α, D.hsL (l.map f) n = true
  | [] => rfl
  | a :: l => by simp only [List.map_cons, D.hsL, h, hsL_map h l, Bool.and_self]
theorem enc_hs : ∀ (t : Ty) (n : Nat) (a : t.V), t.hs n = true → (enc t a).hs n = true
  | .int, _, _, _ => by simp [enc, D.hs]
  | .bl, _, _, _ => by simp [enc, D.hs]
  | .nm, _, _, _ => by simp [enc, D.hs]
  | .non, _, _, _ => by simp [enc, D.hs]
  | .seq .p t, _, _, z => by cases z
  | .seq (.b h) t, 0, _, z => by cases z
  | .seq (.b h) t, n + 1, a, z => by
    obtain ⟨z1, z2⟩ := Bool.and_eq_true_iff.mp (show (h && t.hs n) = true from z)
    subst z1
    show (D.tup (a.map (enc t))).hs (n + 1) = true
    simp only [D.hs]
    exact hsL_map (fun x => enc_hs t n x z2) a
  | .pr h s t, 0, _, z => by cases z
  | .pr h s t, n + 1, a, z => by
    obtain ⟨z1, z2⟩ := Bool.and_eq_true_iff.mp (show (h && (s.hs n && t.hs n)) = true from z)
    obtain ⟨z2, z3⟩ := Bool.and_eq_true_iff.mp z2
    subst z1
    show (D.tup [enc s a.1, enc t a.2]).hs (n + 1) = true
    simp only [D.hs, D.hsL, enc_hs s n _ z2, enc_hs t n _ z3, Bool.and_self]
  | .tr h r s t, 0, _, z => by cases z
  | .tr h r s t, n + 1, a, z => by
    obtain ⟨z1, z2⟩ := Bool.and_eq_true_iff.mp (show (h && (r.hs n && (s.hs n && t.hs n))) = true from z)
    obtain ⟨z2, z3⟩ := Bool.and_eq_true_iff.mp z2
    obtain ⟨z3, z4⟩ := Bool.and_eq_true_iff.mp z3
    subst z1
    show (D.tup [enc r a.1, enc s a.2.1, enc t a.2.2]).hs (n + 1) = true
    simp only [D.hs, D.hsL, enc_hs r n _ z2, enc_hs s n _ z3, enc_hs t n _ z4, Bool.and_self]
end U
end

section
set_option Elab.async false
set_option linter.all false
set_option maxRecDepth 100000
namespace U
open PySem PySem.Spec PyProof.Rows L2
/-! ### primitives over typed data -/
theorem nms_all {x : List Nat} : GN x ↔ ∀ c ∈ x, c < 0x110000 := by unfold GN; rw [List.all_eq_true]; simp
section
variable {t : Ty} {b c : List Nat} {h : Bool} {k : Kd}
theorem t_items (l : List t.V) : (enc (.seq k t) l).items = some (l.map (enc t)) := by
  cases k with
  | b h => exact sq_items h _
  | p => rfl
theorem t_eq (neg : Bool) [DecidableEq t.V] {x y : t.V} (hp : t.np = true) (gx : Good t b x) (gy : Good t c y) (hd : t.dp ≤ 60) : gEq neg (enc t x) (enc t y) = some (.d (.bl (neg != decide (x = y)))) := by
  unfold gEq
  rw [enc_ok t hp gx hd, enc_ok t hp gy hd, enc_eq t hp]; rfl
theorem t_in (neg : Bool) [DecidableEq t.V] {x : t.V} {l : List t.V} (hp : t.np = true) (gx : Good t b x) (gl : Good (.seq (.b h) t) c l) (hd : t.dp ≤ 60) : gIn neg (enc t x) (enc (.seq (.b h) t) l) = some (.d (.bl (neg != inB x l))) := by
  show gIn neg (enc t x) (sq h (l.map (enc t))) = _
  rw [sq_gIn, enc_ok t hp gx hd]
  have : D.okL (l.map (enc t)) 60 = true := okL_of fun d hd' => by
    obtain ⟨y, hy, rfl⟩ := List.mem_map.mp hd'
    exact enc_ok t hp (gl.2 y hy) hd
  rw [this, mem_enc (fun a b => enc_eq t hp a b), Bool.and_self, if_pos rfl]
theorem t_in0 [DecidableEq t.V] {x : t.V} {l : List t.V} (hp : t.np = true) (gx : Good t b x) (gl : Good (.seq (.b h) t) c l) (hd : t.dp ≤ 60) : gIn false (enc t x) (enc (.seq (.b h) t) l) = some (.d (.bl (inB x l))) := by rw [t_in false hp gx gl hd, Bool.false_bne]
theorem t_in1 [DecidableEq t.V] {x : t.V} {l : List t.V} (hp : t.np = true) (gx : Good t b x) (gl : Good (.seq (.b h) t) c l) (hd : t.dp ≤ 60) : gIn true (enc t x) (enc (.seq (.b h) t) l) = some (.d (.bl (!inB x l))) := by rw [t_in true hp gx gl hd, Bool.true_bne]
theorem t_eq0 [DecidableEq t.V] {x y : t.V} (hp : t.np = true) (gx : Good t b x) (gy : Good t c y) (hd : t.dp ≤ 60) : gEq false (enc t x) (enc t y) = some (.d (.bl (decide (x = y)))) := by rw [t_eq false hp gx gy hd, Bool.false_bne]
theorem t_eq1 [DecidableEq t.V] {x y : t.V} (hp : t.np = true) (gx : Good t b x) (gy : Good t c y) (hd : t.dp ≤ 60) : gEq true (enc t x) (enc t y) = some (.d (.bl (!decide (x = y)))) := by rw [t_eq true hp gx gy hd, Bool.true_bne]
theorem t_sortable {l : List t.V} (hp : t.np = true) (gl : Good (.seq k t) b l) (hn : t.isN = false) (hd : t.dp ≤ 60) (hz : b.headD 0 ≤ lim) : CanSort (l.map (enc t)) where
  len := by rw [List.length_map]; exact Nat.le_trans gl.1 hz
  ok := fun d hd' => by obtain ⟨x, hx, rfl⟩ := List.mem_map.mp hd'; exact enc_ok t hp (gl.2 x hx) hd
  non := fun d hd' => by obtain ⟨x, hx, rfl⟩ := List.mem_map.mp hd'; exact enc_non hn x
  like := fun d hd' e he' => by
    obtain ⟨x, _, rfl⟩ := List.mem_map.mp hd'
    obtain ⟨y, _, rfl⟩ := List.mem_map.mp he'
    exact enc_like t x y hp
theorem t_sorted {l : List t.V} (hp : t.np = true) (gl : Good (.seq (.b h) t) b l) (hn : t.isN = false) (hd : t.dp ≤ 60) (hz : b.headD 0 ≤ lim) : gSorted (enc (.seq (.b h) t) l) = some (.o (.l ((isort (ltT t) l).map (enc t)))) := by
  show gSorted (sq h (l.map (enc t))) = _
  rw [sq_gSorted, canSort_iff (t_sortable hp gl hn hd hz), if_pos rfl, sortD_map (fun a b => enc_lt t a b hp)]
def Ty.key : Ty → Bool
  | .nm => true
  | .int => true
  | _ => false
/-- set(..) takes them -/
def Ty.hsh (t : Ty) : Bool := t.key || (match t with
  | .seq (.b h) s => h && s.hs 7
  | .pr h a b => h && (a.hs 7 && b.hs 7)
  | .tr h a b c => h && (a.hs 7 && (b.hs 7 && c.hs 7))
  | _ => false)
theorem hsh_ok (hh : t.hsh = true) (l : List t.V) : ((l.map (enc t)).all (·.key.isSome) || ((l.map (enc t)).all isTup && (l.map (enc t)).all (·.hs 8))) = true := by
  cases t with
  | int => rw [Bool.or_eq_true]; exact .inl (List.all_eq_true.mpr fun d hd => by obtain ⟨x, _, rfl⟩ := List.mem_map.mp hd; rfl)
  | nm => rw [Bool.or_eq_true]; exact .inl (List.all_eq_true.mpr fun d hd => by obtain ⟨x, _, rfl⟩ := List.mem_map.mp hd; rfl)
  | bl => cases hh
  | non => cases hh
  | seq k s =>
    cases k with
    | p => cases hh
    | b g =>
      have h8 : (Ty.seq (.b g) s).hs 8 = true := by simpa [Ty.hsh, Ty.key, Ty.hs] using hh
      have hg : g = true := by simp only [Ty.hsh, Ty.key, Bool.false_or, Bool.and_eq_true] at hh; exact hh.1
      rw [Bool.or_eq_true, Bool.and_eq_true]
      refine .inr ⟨List.all_eq_true.mpr fun d hd => ?_, List.all_eq_true.mpr fun d hd => ?_⟩
      · obtain ⟨x, _, rfl⟩ := List.mem_map.mp hd; subst hg; rfl
      · obtain ⟨x, _, rfl⟩ := List.mem_map.mp hd; exact enc_hs _ 8 x h8
  | pr g s r =>
    have h8 : (Ty.pr g s r).hs 8 = true := by simpa [Ty.hsh, Ty.key, Ty.hs] using hh
    have hg : g = true := by simp only [Ty.hsh, Ty.key, Bool.false_or, Bool.and_eq_true] at hh; exact hh.1
    rw [Bool.or_eq_true, Bool.and_eq_true]
    refine .inr ⟨List.all_eq_true.mpr fun d hd => ?_, List.all_eq_true.mpr fun d hd => ?_⟩
    · obtain ⟨x, _, rfl⟩ := List.mem_map.mp hd; subst hg; rfl
    · obtain ⟨x, _, rfl⟩ := List.mem_map.mp hd; exact enc_hs _ 8 x h8
  | tr g s r q =>
    have h8 : (Ty.tr g s r q).hs 8 = true := by simpa [Ty.hsh, Ty.key, Ty.hs] using hh
    have hg : g = true := by simp only [Ty.hsh, Ty.key, Bool.false_or, Bool.and_eq_true] at hh; exact hh.1
    rw [Bool.or_eq_true, Bool.and_eq_true]
    refine .inr ⟨List.all_eq_true.mpr fun d hd => ?_, List.all_eq_true.mpr fun d hd => ?_⟩
    · obtain ⟨x, _, rfl⟩ := List.mem_map.mp hd; subst hg; rfl
    · obtain ⟨x, _, rfl⟩ := List.mem_map.mp hd; exact enc_hs _ 8 x h8
theorem dd_len {α : Type} [DecidableEq α] : ∀ l : List α, (dd l).length ≤ l.length
  | [] => Nat.le_refl _
  | a :: l => by
    unfold dd
    split
    · exact Nat.le_succ_of_le (dd_len l)
    · exact Nat.succ_le_succ (dd_len l)
theorem t_set [DecidableEq t.V] {l : List t.V} (hp : t.np = true) (gl : Good (.seq (.b h) t) b l) (hn : t.isN = false) (hh : t.hsh = true) (hd : t.dp ≤ 60) (hz : b.headD 0 ≤ lim) (few : (dd l).length < 64) : gSS (enc (.seq (.b h) t) l) = some (.o (.l ((sof' (ltT t) l).map (enc t)))) := by
  show gSS (sq h (l.map (enc t))) = _
  have ok : okSet (l.map (enc t)) = true := by
    unfold okSet
    rw [canSort_iff (t_sortable hp gl hn hd hz), dedupD_map (fun a b => enc_eq t hp a b), List.length_map, decide_eq_true few, hsh_ok hh]; rfl
  rw [sq_gSS, ok, if_pos rfl, setD_map (fun a b => enc_eq t hp a b) (fun a b => enc_lt t a b hp)]
theorem t_set' [DecidableEq t.V] {l : List t.V} (hp : t.np = true) (gl : Good (.seq (.b h) t) b l) (hn : t.isN = false) (hh : t.hsh = true) (hd : t.dp ≤ 60) (hz : b.headD 0 < 64) : gSS (enc (.seq (.b h) t) l) = some (.o (.l ((sof' (ltT t) l).map (enc t)))) :=
  t_set hp gl hn hh hd (Nat.le_trans (Nat.le_of_lt hz) (by decide)) (Nat.lt_of_le_of_lt (dd_len l) (Nat.lt_of_le_of_lt gl.1 hz))
theorem t_tuple (l : List t.V) : gTuple (enc (.seq (.b h) t) l) = some (.d (enc (.seq (.b true) t) l)) := sq_tuple h _
theorem t_list (l : List t.V) : gList (enc (.seq (.b h) t) l) = some (.o (.l (l.map (enc t)))) := by
  show gList (sq h (l.map (enc t))) = _
  cases h <;> rfl
theorem t_len (l : List t.V) : gLen (enc (.seq (.b h) t) l) = some (.d (.int l.length)) := by
  show gLen (sq h (l.map (enc t))) = _
  rw [sq_len, List.length_map]
theorem t_truth (l : List t.V) : (enc (.seq (.b h) t) l).truth = some (!l.isEmpty) := by
  show (sq h (l.map (enc t))).truth = _
  cases h <;> cases l <;> rfl
theorem t_nil0 (hp : t.np = true) {l : List t.V} (gl : Good (.seq k t) b l) (hd : t.dp ≤ 59) : gEq false (.lst (l.map (enc t))) (.lst []) = some (.d (.bl l.isEmpty)) := by
  have : D.okL (l.map (enc t)) 59 = true := okL_of fun d hd' => by
    obtain ⟨y, hy, rfl⟩ := List.mem_map.mp hd'
    exact enc_ok t hp (gl.2 y hy) hd
  rw [gEq_nil false this, List.isEmpty_map, Bool.false_bne]
theorem t_nil1 (hp : t.np = true) {l : List t.V} (gl : Good (.seq k t) b l) (hd : t.dp ≤ 59) : gEq true (.lst (l.map (enc t))) (.lst []) = some (.d (.bl (!l.isEmpty))) := by
  have : D.okL (l.map (enc t)) 59 = true := okL_of fun d hd' => by
    obtain ⟨y, hy, rfl⟩ := List.mem_map.mp hd'
    exact enc_ok t hp (gl.2 y hy) hd
  rw [gEq_nil true this, List.isEmpty_map, Bool.true_bne]
end
/-! ### goodness -/
def leB : List Nat → List Nat → Bool
  | [], _ => true
  | x :: xs, [] => decide (x ≤ 0) && leB xs []
  | x :: xs, y :: ys => decide (x ≤ y) && leB xs ys
theorem leB_head {b c : List Nat} (h : leB b c = true) : b.headD 0 ≤ c.headD 0 := by
  cases b with
  | nil => exact Nat.zero_le _
  | cons x xs => cases c with
    | nil => exact of_decide_eq_true (Bool.and_eq_true_iff.mp h).1
    | cons y ys => exact of_decide_eq_true (Bool.and_eq_true_iff.mp h).1
theorem leB_tail {b c : List Nat} (h : leB b c = true) : leB b.tail c.tail = true := by
  cases b with
  | nil => rfl
  | cons x xs => cases c with
    | nil => exact (Bool.and_eq_true_iff.mp h).2
    | cons y ys => exact (Bool.and_eq_true_iff.mp h).2
theorem Good.mono : ∀ {t : Ty} {b c : List Nat} {v : t.V}, Good t b v → leB b c = true → Good t c v
  | .int, _, _, _, _, _ => trivial
  | .bl, _, _, _, _, _ => trivial
  | .nm, _, _, _, g, _ => g
  | .non, _, _, _, _, _ => trivial
  | .seq h t, b, c, l, g, z => ⟨Nat.le_trans g.1 (leB_head z), fun x hx => (g.2 x hx).mono (leB_tail z)⟩
  | .pr h s t, b, c, p, g, z => ⟨Good.mono g.1 z, Good.mono g.2 z⟩
  | .tr h r s t, b, c, p, g, z => ⟨Good.mono g.1 z, Good.mono g.2.1 z, Good.mono g.2.2 z⟩
section
variable {t : Ty} {b : List Nat} {h h' : Kd} {n m : Nat} {l l' : List t.V}
theorem gd_flag (g : Good (.seq h t) b l) : Good (.seq h' t) b l := g
theorem gd_mem {x : t.V} (g : Good (.seq h t) (n :: b) l) (hx : x ∈ l) : Good t b x := g.2 x hx
theorem gd_filter {p : t.V → Bool} (g : Good (.seq h t) (n :: b) l) : Good (.seq h' t) (n :: b) (l.filter p) := ⟨Nat.le_trans (List.length_filter_le ..) g.1, fun x hx => g.2 x (List.mem_filter.mp hx).1⟩
theorem gd_map {α : Type} {xs : List α} {f : α → t.V} (hl : xs.length ≤ n) (g : ∀ x ∈ xs, Good t b (f x)) : Good (.seq h t) (n :: b) (xs.map f) := ⟨by rw [List.length_map]; exact hl, fun y hy => by obtain ⟨x, hx, rfl⟩ := List.mem_map.mp hy; exact g x hx⟩
theorem gd_flat {α : Type} {xs : List α} {f : α → List t.V} (hl : xs.length ≤ n) (g : ∀ x ∈ xs, Good (.seq h t) (m :: b) (f x)) : Good (.seq h' t) ((n * m) :: b) (xs.flatMap f) := by
  refine ⟨?_, fun y hy => by obtain ⟨x, hx, q⟩ := List.mem_flatMap.mp hy; exact (g x hx).2 y q⟩
  show (xs.flatMap f).length ≤ n * m
  have key : ∀ xs : List α, (∀ x ∈ xs, (f x).length ≤ m) → (xs.flatMap f).length ≤ xs.length * m := fun xs => by
    induction xs with
    | nil => intro _; simp
    | cons x xs ih =>
      intro hx
      rw [List.flatMap_cons, List.length_append, List.length_cons, Nat.succ_mul]
      have h1 := hx x (List.mem_cons_self ..)
      have h2 := ih fun y hy => hx y (List.mem_cons_of_mem _ hy)
      omega
  exact Nat.le_trans (key xs fun x hx => (g x hx).1) (Nat.mul_le_mul_right _ hl)
theorem gd_app (g : Good (.seq h t) (n :: b) l) (g' : Good (.seq h' t) (m :: b) l') {h2 : Kd} : Good (.seq h2 t) ((n + m) :: b) (l ++ l') := ⟨by
  rw [List.length_append]
  have h1 : l.length ≤ n := g.1
  have h2 : l'.length ≤ m := g'.1
  show l.length + l'.length ≤ n + m
  omega, fun x hx => (List.mem_append.mp hx).elim (fun z => g.2 x z) fun z => g'.2 x z⟩
theorem gd_nil : Good (.seq h t) (0 :: b) [] := ⟨Nat.le_refl _, fun _ z => nomatch z⟩
theorem gd_cons {x : t.V} (gx : Good t b x) (g : Good (.seq h t) (n :: b) l) : Good (.seq h' t) ((n + 1) :: b) (x :: l) := ⟨Nat.succ_le_succ g.1, fun y hy => (List.mem_cons.mp hy).elim (fun e => e ▸ gx) fun z => g.2 y z⟩
theorem gd_sort {lt : t.V → t.V → Bool} (g : Good (.seq h t) (n :: b) l) : Good (.seq h' t) (n :: b) (isort lt l) := ⟨by rw [(isort_perm l).length_eq]; exact g.1, fun x hx => g.2 x ((isort_perm l).mem_iff.mp hx)⟩
theorem gd_set [DecidableEq t.V] {lt : t.V → t.V → Bool} (g : Good (.seq h t) (n :: b) l) : Good (.seq h' t) (n :: b) (sof' lt l) := ⟨by
  unfold sof'
  rw [(isort_perm _).length_eq]
  exact Nat.le_trans (dd_len l) g.1, fun x hx => g.2 x (sof_mem.mp hx)⟩
end
/-! ### comprehensions -/
section
variable {t : Ty} {τ : T} {f : D → T → Rs (Option D)}
theorem cp_map {α : Type} {g : α → D} {h : α → t.V} (xs : List α) (hl : xs.length ≤ lim) (hf : ∀ x ∈ xs, f (g x) τ = .ok (some (enc t (h x))) τ) : compL f (xs.map g) τ [] = .ok ((xs.map h).map (enc t)) τ := by
  rw [List.map_map]
  exact compL_over xs hf hl
theorem cp_filt {α : Type} {g : α → D} {h : α → t.V} {q : α → Bool} (xs : List α) (hl : xs.length ≤ lim) (hf : ∀ x ∈ xs, f (g x) τ = .ok (if q x then some (enc t (h x)) else none) τ) : compL f (xs.map g) τ [] = .ok (((xs.filter q).map h).map (enc t)) τ := by
  rw [List.map_map]
  exact compL_filt (h := fun x => enc t (h x)) xs hf hl
theorem cp_fid {q : t.V → Bool} (xs : List t.V) (hl : xs.length ≤ lim) (hf : ∀ x ∈ xs, f (enc t x) τ = .ok (if q x then some (enc t x) else none) τ) : compL f (xs.map (enc t)) τ [] = .ok ((xs.filter q).map (enc t)) τ := compL_filt xs hf hl
theorem cp_bl {α : Type} {g : α → D} {h : α → Bool} (xs : List α) (hl : xs.length ≤ lim) (hf : ∀ x ∈ xs, f (g x) τ = .ok (some (.bl (h x))) τ) : compL f (xs.map g) τ [] = .ok (xs.map fun x => .bl (h x)) τ := compL_over xs hf hl
theorem cp_fbl {α : Type} {g : α → D} {h q : α → Bool} (xs : List α) (hl : xs.length ≤ lim) (hf : ∀ x ∈ xs, f (g x) τ = .ok (if q x then some (.bl (h x)) else none) τ) : compL f (xs.map g) τ [] = .ok ((xs.filter q).map fun x => .bl (h x)) τ := compL_filt xs hf hl
end
end U
end

section
set_option Elab.async false
set_option linter.all false
set_option maxRecDepth 100000
namespace U
open PySem PySem.Spec PyProof.Rows L2
theorem t_sq (xs : List D) : sq true xs = .tup xs ∧ sq false xs = .lst xs := ⟨rfl, rfl⟩
theorem p_items (xs : List D) : (D.ptp xs).items = some xs := rfl
theorem s_items (h : Bool) (xs : List D) : (sq h xs).items = some xs := sq_items h xs
theorem toD_l (ds : List D) : (OV.l ds).toD = .lst ds := rfl
end U
end

section
set_option Elab.async false
set_option linter.all false
set_option maxRecDepth 100000
namespace U
open PySem PySem.Spec PyProof.Rows L2
/-! tuples for lists, lists for tuples -/
def Ty.set (g : Bool) : Ty → Ty
  | .seq _ t => .seq (.b g) (t.set g)
  | .pr _ a b => .pr g (a.set g) (b.set g)
  | .tr _ a b c => .tr g (a.set g) (b.set g) (c.set g)
  | t => t
theorem set_V (g : Bool) : ∀ t : Ty, (t.set g).V = t.V
  | .int => rfl
  | .bl => rfl
  | .nm => rfl
  | .non => rfl
  | .seq _ t => congrArg List (set_V g t)
  | .pr _ a b => by
    show ((a.set g).V × (b.set g).V) = (a.V × b.V)
    rw [set_V g a, set_V g b]
  | .tr _ a b c => by
    show ((a.set g).V × (b.set g).V × (c.set g).V) = (a.V × b.V × c.V)
    rw [set_V g a, set_V g b, set_V g c]
theorem map_heq {α β : Type} (e : α = β) {f : α → D} {g : β → D} (h : ∀ a b, HEq a b → f a = g b) {l : List α} {m : List β} (q : HEq l m) : l.map f = m.map g := by
  subst e
  cases q
  exact List.map_congr_left fun x _ => h x x HEq.rfl
theorem prod_heq {α β α' β' : Type} (e : α = α') (e' : β = β') {p : α × β} {q : α' × β'} (h : HEq p q) : HEq p.1 q.1 ∧ HEq p.2 q.2 := by
  subst e e'
  cases h
  exact ⟨HEq.rfl, HEq.rfl⟩
end U
end

section
set_option Elab.async false
set_option linter.all false
set_option maxRecDepth 100000
namespace U
open PySem PySem.Spec PyProof.Rows L2
/-! dicts by names -/
theorem compK_new {α : Type} {f : D → T → Rs (Option (D × D))} {g k v : α → D} {τ : T} : ∀ (xs : List α) (acc : List (D × D)), (∀ x ∈ xs, f (g x) τ = .ok (some (k x, v x)) τ) → (∀ x ∈ xs, (k x).key.isSome = true) → (∀ x ∈ xs, ∀ p ∈ acc, p.1.eqb (k x) = false) → xs.Pairwise (fun x y => (k x).eqb (k y) = false) → acc.length + xs.length ≤ lim → compK f (xs.map g) τ acc = .ok (acc ++ xs.map fun x => (k x, v x)) τ
  | [], acc, _, _, _, _, _ => by simp [compK]
  | x :: xs, acc, hf, hk, ha, hp, hl => by
    rw [List.length_cons] at hl
    rw [List.pairwise_cons] at hp
    obtain ⟨kk, ek⟩ := Option.isSome_iff_exists.mp (hk x (List.mem_cons_self ..))
    have hlt : acc.length < lim := by omega
    show (match f (g x) τ with
      | .ok (some (k, z)) τ1 => if acc.length < lim then (match k.key with
        | some _ => compK f (xs.map g) τ1 (putP acc k z)
        | none => .stuck) else .stuck
      | .ok none τ1 => compK f (xs.map g) τ1 acc
      | _ => .stuck) = _
    rw [hf x (List.mem_cons_self ..)]
    show (if acc.length < lim then (match (k x).key with
        | some _ => compK f (xs.map g) τ (putP acc (k x) (v x))
        | none => .stuck) else .stuck) = _
    rw [if_pos hlt, ek]
    have e : putP acc (k x) (v x) = acc ++ [(k x, v x)] := by
      unfold putP
      rw [if_neg]
      rw [Bool.not_eq_true, List.any_eq_false]
      intro p hp'
      rw [ha x (List.mem_cons_self ..) p hp']
      exact Bool.false_ne_true
    show compK f (xs.map g) τ (putP acc (k x) (v x)) = _
    rw [e, compK_new xs (acc ++ [(k x, v x)]) (fun z hz => hf z (List.mem_cons_of_mem _ hz)) (fun z hz => hk z (List.mem_cons_of_mem _ hz)) (fun z hz p hp' => by
      rcases List.mem_append.mp hp' with q | q
      · exact ha z (List.mem_cons_of_mem _ hz) p q
      · rw [List.mem_singleton.mp q]; exact hp.1 z hz) hp.2 (by rw [List.length_append, List.length_singleton]; omega)]
    simp

section
variable {α : Type} (v : α → D)
theorem dl_look (x : List Nat) : ∀ b : List (List Nat × α), dLook (b.map fun r => .str r.1) (b.map fun r => v r.2) (.str x) = (b.find? fun r => decide (r.1 = x)).map fun r => v r.2
  | [] => rfl
  | r :: b => by
    rw [List.map_cons, List.map_cons]
    unfold dLook
    have e : (D.str r.1).eqb (.str x) = decide (r.1 = x) := nm_eqb r.1 x
    rw [e, List.find?_cons]
    by_cases c : r.1 = x
    · rw [decide_eq_true c]; rfl
    · rw [decide_eq_false c]
      simp only [Bool.false_eq_true, if_false]
      exact dl_look x b
/-- what stands there -/
def ofK {α : Type} (d : α) (b : List (List Nat × α)) (x : List Nat) : α := ((b.find? fun r => decide (r.1 = x)).map (·.2)).getD d
theorem ofK_mem {b : List (List Nat × α)} {x : List Nat} (h : x ∈ b.map (·.1)) (d : α) : ∃ r ∈ b, r.1 = x ∧ (b.find? fun r => decide (r.1 = x)) = some r ∧ ofK d b x = r.2 := by
  obtain ⟨r, hr, e⟩ := List.mem_map.mp h
  cases q : b.find? fun r => decide (r.1 = x) with
  | none => exact absurd (List.find?_eq_none.mp q r hr) (by simp [e])
  | some z =>
    have h1 := List.find?_some q
    exact ⟨z, List.mem_of_find?_eq_some q, of_decide_eq_true h1, rfl, by unfold ofK; rw [q]; rfl⟩
theorem dl_ix {b : List (List Nat × α)} {x : List Nat} (h : x ∈ b.map (·.1)) (d : α) : gIx (.dct false (b.map fun r => .str r.1) (b.map fun r => v r.2)) (.str x) = some (.d (v (ofK d b x))) := by
  show (if (D.str x).keyOk false = true then (dLook (b.map fun r => .str r.1) (b.map fun r => v r.2) (.str x)).map PR.d else none) = _
  rw [if_pos (show D.keyOk false (.str x) = true from rfl), dl_look]
  obtain ⟨r, _, _, e, e2⟩ := ofK_mem h d
  rw [e, e2]; rfl
end
theorem str_nodup {α : Type} {b : List (List Nat × α)} (h : (b.map (·.1)).Nodup) : b.Pairwise fun x y => (D.str x.1).eqb (.str y.1) = false := by
  rw [List.nodup_iff_pairwise_ne, List.pairwise_map] at h
  exact h.imp fun {a c} q => by
    have e : (D.str a.1).eqb (.str c.1) = decide (a.1 = c.1) := nm_eqb a.1 c.1
    rw [e]; exact decide_eq_false q
end U
end

section
set_option Elab.async false
set_option linter.all false
set_option maxRecDepth 100000
namespace U
open PySem PySem.Spec PyProof.Rows L2
/-! cuts, draws in comprehensions -/
theorem cut_to {α : Type} (xs : List α) (k : Nat) : cutA xs none (some (k : Int)) = xs.take k := by
  unfold cutA
  rw [HT.sIx_nat xs.length xs.length k, HT.sIx_none, List.drop_zero, Nat.sub_zero, Nat.min_def]
  split
  · rfl
  · rw [List.take_of_length_le (by omega), List.take_of_length_le (by omega)]
theorem cut_from {α : Type} (xs : List α) (k : Nat) : cutA xs (some (k : Int)) none = xs.drop k := by
  unfold cutA
  rw [HT.sIx_nat xs.length 0 k, HT.sIx_none, List.take_of_length_le (by rw [List.length_drop]; omega), Nat.min_def]
  split
  · rfl
  · rw [List.drop_of_length_le (by omega), List.drop_of_length_le (by omega)]
theorem sum_le {α : Type} {f : α → Nat} {b : Nat} : ∀ xs : List α, (∀ x ∈ xs, f x ≤ b) → (xs.map f).sum ≤ xs.length * b
  | [], _ => by simp
  | x :: xs, h => by
    rw [List.map_cons, List.sum_cons, List.length_cons, Nat.succ_mul]
    have h1 := h x (List.mem_cons_self ..)
    have h2 := sum_le xs fun y hy => h y (List.mem_cons_of_mem _ hy)
    omega
theorem strsOf_map : ∀ xs : List (List Nat), strsOf (xs.map D.str) = some xs
  | [] => rfl
  | x :: xs => by
    show (strsOf (xs.map D.str)).map (x :: ·) = _
    rw [strsOf_map xs]; rfl
theorem joinL_nil : ∀ xs : List (List Nat), joinL [] xs = xs.flatten
  | [] => rfl
  | x :: xs => by
    show x ++ xs.flatMap (fun y => [] ++ y) = _
    simp [List.flatten_cons, List.flatMap]
theorem join_go {xs : List (List Nat)} (h : (xs.map List.length).sum ≤ lim) : gJoin (.str []) (.lst (xs.map D.str)) = some (.d (.str xs.flatten)) := by
  show (match strsOf (xs.map D.str) with
    | some xs => if (xs.map List.length).sum + xs.length * 0 ≤ lim then some (PR.d (.str (joinL [] xs))) else none
    | none => none) = _
  rw [strsOf_map]
  show (if (xs.map List.length).sum + xs.length * 0 ≤ lim then some (PR.d (.str (joinL [] xs))) else none) = _
  rw [if_pos (by omega), joinL_nil]
theorem compL_go {f : D → T → Rs (Option D)} {d z : D} {ds acc : List D} {τ τ1 : T} (h : f d τ = .ok (some z) τ1) (hl : acc.length < lim) : compL f (d :: ds) τ acc = compL f ds τ1 (acc ++ [z]) := by
  show (match f d τ with
    | .ok (some z) τ1 => if acc.length < lim then compL f ds τ1 (acc ++ [z]) else .stuck
    | .ok none τ1 => compL f ds τ1 acc
    | _ => .stuck) = _
  rw [h]
  exact if_pos hl
theorem compL_skip {f : D → T → Rs (Option D)} {d : D} {ds acc : List D} {τ τ1 : T} (h : f d τ = .ok none τ1) : compL f (d :: ds) τ acc = compL f ds τ1 acc := by
  show (match f d τ with
    | .ok (some z) τ1 => if acc.length < lim then compL f ds τ1 (acc ++ [z]) else .stuck
    | .ok none τ1 => compL f ds τ1 acc
    | _ => .stuck) = _
  rw [h]
theorem popAt_D {rest : List D} {j : Nat} (hj : j < rest.length) (hl : rest.length ≤ 1000) : mPopAt (.l rest) [.int (j : Int)] = some (rest[j], .l (rest.eraseIdx j)) := by
  rw [popAt_eq, if_pos (by omega), seqIx hj]
  simp only [List.getElem?_eq_getElem hj]
  rfl
theorem erase_pm {α : Type} {rest : List α} {j : Nat} (hj : j < rest.length) : (rest[j] :: rest.eraseIdx j).Perm rest := by
  induction rest generalizing j with
  | nil => cases hj
  | cons a l ih =>
    cases j with
    | zero => exact .refl _
    | succ j =>
      have hj' : j < l.length := by simpa using hj
      exact (List.Perm.swap ..).trans ((ih hj').cons a)
theorem perm_map {α : Type} {f : α → D} {l : List α} : ∀ {ds : List D}, ds.Perm (l.map f) → ∃ m : List α, m.Perm l ∧ ds = m.map f := by
  have key : ∀ {ds es : List D}, ds.Perm es → ∀ l : List α, es = l.map f → ∃ m : List α, m.Perm l ∧ ds = m.map f := by
    intro ds es h
    induction h with
    | nil => intro l e; cases l with
      | nil => exact ⟨[], .refl _, rfl⟩
      | cons a l => cases e
    | cons x _ ih =>
      intro l e
      cases l with
      | nil => cases e
      | cons a l =>
        rw [List.map_cons] at e
        injection e with e1 e2
        obtain ⟨m, h1, h2⟩ := ih l e2
        exact ⟨a :: m, h1.cons a, by rw [List.map_cons, h2, e1]⟩
    | swap x y l' =>
      intro l e
      cases l with
      | nil => cases e
      | cons a l =>
        cases l with
        | nil => cases e
        | cons b l =>
          rw [List.map_cons, List.map_cons] at e
          injection e with e1 e2
          injection e2 with e2 e3
          exact ⟨b :: a :: l, .swap .., by rw [List.map_cons, List.map_cons, e1, e2, e3]⟩
    | trans _ _ ih1 ih2 =>
      intro l e
      obtain ⟨m, h1, h2⟩ := ih2 l e
      obtain ⟨m', h3, h4⟩ := ih1 m h2
      exact ⟨m', h3.trans h1, h4⟩
  intro ds h
  exact key h l rfl
end U
end

section
set_option Elab.async false
set_option linter.all false
set_option maxRecDepth 100000
namespace U
open PySem PySem.Spec PyProof.Rows L2
theorem putP_new {acc : List (D × D)} {k v : D} (h : ∀ p ∈ acc, p.1.eqb k = false) : putP acc k v = acc ++ [(k, v)] := by
  unfold putP
  rw [if_neg]
  rw [Bool.not_eq_true, List.any_eq_false]
  intro p hp
  rw [h p hp]
  exact Bool.false_ne_true
theorem merge_new : ∀ (qs acc : List (D × D)), (∀ q ∈ qs, ∀ p ∈ acc, p.1.eqb q.1 = false) → qs.Pairwise (fun a b => a.1.eqb b.1 = false) → qs.foldl (fun acc p => putP acc p.1 p.2) acc = acc ++ qs
  | [], acc, _, _ => by simp
  | q :: qs, acc, h, hp => by
    rw [List.pairwise_cons] at hp
    rw [List.foldl_cons, putP_new (h q (List.mem_cons_self ..)), merge_new qs (acc ++ [(q.1, q.2)]) (fun r hr p hp' => by
      rcases List.mem_append.mp hp' with z | z
      · exact h r (List.mem_cons_of_mem _ hr) p z
      · rw [List.mem_singleton.mp z]; exact hp.1 r hr) hp.2]
    simp
section
variable {t : Ty}
theorem pairs_nm : ∀ b : List (List Nat × t.V), pairsD (b.map (enc (.pr true .nm t))) = some (b.map fun r => (.str r.1, enc t r.2))
  | [] => rfl
  | r :: b => by
    show (if (D.str r.1).key.isSome then (pairsD (b.map (enc (.pr true .nm t)))).map ((.str r.1, enc t r.2) :: ·) else none) = _
    rw [pairs_nm b]; rfl
theorem merge_nm {b : List (List Nat × t.V)} (nd : (b.map (·.1)).Nodup) : mergeP (b.map fun r => (D.str r.1, enc t r.2)) = b.map fun r => (.str r.1, enc t r.2) := by
  unfold mergeP
  rw [merge_new _ [] (fun q _ p hp => by cases hp) (List.pairwise_map.mpr (str_nodup nd))]
  simp
theorem dict_ptp {b : List (List Nat × t.V)} (nd : (b.map (·.1)).Nodup) (hl : b.length ≤ 1000) : gDict (.ptp (b.map (enc (.pr true .nm t)))) = some (.o (.d false (b.map fun r => .str r.1) (b.map fun r => enc t r.2))) := by
  show (if (b.map (enc (.pr true .nm t))).length ≤ lim then (pairsD (b.map (enc (.pr true .nm t)))).map fun ps => PR.o (.d false ((mergeP ps).map (·.1)) ((mergeP ps).map (·.2))) else none) = _
  rw [if_pos (by rw [List.length_map]; exact lim_big hl), pairs_nm]
  show some (PR.o (.d false ((mergeP _).map (·.1)) ((mergeP _).map (·.2)))) = _
  rw [merge_nm nd, List.map_map, List.map_map]; rfl
theorem dict_lst {b : List (List Nat × t.V)} (nd : (b.map (·.1)).Nodup) : gDict (.lst (b.map (enc (.pr true .nm t)))) = some (.o (.d false (b.map fun r => .str r.1) (b.map fun r => enc t r.2))) := by
  show (pairsD (b.map (enc (.pr true .nm t)))).map (fun ps => PR.o (.d false ((mergeP ps).map (·.1)) ((mergeP ps).map (·.2)))) = _
  rw [pairs_nm]
  show some (PR.o (.d false ((mergeP _).map (·.1)) ((mergeP _).map (·.2)))) = _
  rw [merge_nm nd, List.map_map, List.map_map]; rfl
end
theorem okS_lst {n : Nat} {xs : List D} (hl : xs.length ≤ 1000) (h : ∀ x ∈ xs, okS n x = true) : okS (n + 1) (.lst xs) = true := by
  unfold okS
  rw [Bool.and_eq_true]
  exact ⟨decide_eq_true (Nat.lt_of_le_of_lt hl (by decide)), List.all_eq_true.mpr h⟩
theorem okS_tup {n : Nat} {xs : List D} (hl : xs.length ≤ 1000) (h : ∀ x ∈ xs, okS n x = true) : okS (n + 1) (.tup xs) = true := by
  unfold okS
  rw [Bool.and_eq_true]
  exact ⟨decide_eq_true (Nat.lt_of_le_of_lt hl (by decide)), List.all_eq_true.mpr h⟩
theorem gAddL {xs ys : List D} (h : xs.length + ys.length ≤ 1000) : gAdd (.lst xs) (.lst ys) = some (.o (.l (xs ++ ys))) := if_pos (lim_big h)
theorem gAddT {xs ys : List D} (h : xs.length + ys.length ≤ 1000) : gAdd (.tup xs) (.tup ys) = some (.d (.tup (xs ++ ys))) := if_pos (lim_big h)
theorem gMul_rep (x : D) (n : Nat) (h : n ≤ 1000) : gMul (.lst [x]) (.int (n : Int)) = some (.o (.l (List.replicate n x))) := by
  show (if [x].length * ((n : Int)).toNat ≤ lim ∧ ((n : Int)).natAbs < 2 ^ 63 then some (PR.o (.l (rep (n : Int) [x]))) else none) = _
  rw [if_pos ⟨lim_big (by simp; omega), by omega⟩]
  have : rep (n : Int) [x] = List.replicate n x := by
    unfold rep
    simp
  rw [this]
end U
end

section
set_option Elab.async false
set_option linter.all false
set_option maxRecDepth 100000
namespace U
open PySem PySem.Spec PyProof.Rows L2
/-! all sublists; while loops -/
def pwF {α : Type} : List (List α) → List α → List (List α)
  | acc, [] => acc
  | acc, t :: ts => pwF (acc ++ acc.map (· ++ [t])) ts
theorem pwF_len {α : Type} : ∀ (l : List α) (acc : List (List α)), (pwF acc l).length = acc.length * 2 ^ l.length
  | [], acc => by simp [pwF]
  | t :: l, acc => by
    unfold pwF
    rw [pwF_len l, List.length_append, List.length_map, List.length_cons, Nat.pow_succ]
    rw [← Nat.two_mul, Nat.mul_comm 2, Nat.mul_assoc, Nat.mul_comm 2]
theorem mem_pwF {α : Type} : ∀ (l : List α) (acc : List (List α)) (s : List α), s ∈ pwF acc l ↔ ∃ a t, a ∈ acc ∧ t.Sublist l ∧ s = a ++ t
  | [], acc, s => by
    unfold pwF
    constructor
    · exact fun h => ⟨s, [], h, .refl _, by simp⟩
    · rintro ⟨a, t, ha, ht, rfl⟩
      rw [List.sublist_nil.mp ht, List.append_nil]; exact ha
  | x :: l, acc, s => by
    unfold pwF
    rw [mem_pwF l]
    constructor
    · rintro ⟨a, t, ha, ht, rfl⟩
      rcases List.mem_append.mp ha with ha | ha
      · exact ⟨a, t, ha, ht.cons _, rfl⟩
      · obtain ⟨a', ha', rfl⟩ := List.mem_map.mp ha
        exact ⟨a', x :: t, ha', ht.cons_cons _, by simp⟩
    · rintro ⟨a, t, ha, ht, rfl⟩
      cases ht with
      | cons _ ht => exact ⟨a, t, List.mem_append_left _ ha, ht, rfl⟩
      | @cons_cons t' _ _ ht => exact ⟨a ++ [x], t', List.mem_append_right _ (List.mem_map.mpr ⟨a, ha, rfl⟩), ht, by simp⟩
def setsOf (l : List (List Nat)) : List (List (List Nat)) := pwF [[]] l
theorem mem_setsOf {l s : List (List Nat)} : s ∈ setsOf l ↔ s.Sublist l := by
  unfold setsOf
  rw [mem_pwF]
  constructor
  · rintro ⟨a, t, ha, ht, rfl⟩
    rw [List.mem_singleton.mp ha, List.nil_append]; exact ht
  · exact fun h => ⟨[], s, List.mem_singleton.mpr rfl, h, rfl⟩
theorem setsOf_len (l : List (List Nat)) : (setsOf l).length = 2 ^ l.length := by
  unfold setsOf
  rw [pwF_len, List.length_singleton, Nat.one_mul]
/-- an ordered list of names among names in order -/
theorem up_sub {l s : List (List Nat)} (hl : Up ltN l) (hs : Up ltN s) (h : ∀ x ∈ s, x ∈ l) : s.Sublist l := by
  have e : s = l.filter fun x => inB x s := up_one oN hs (hl.filter _) fun x => by
    rw [List.mem_filter, inB_iff]
    exact ⟨fun q => ⟨h x q, q⟩, fun q => q.2⟩
  rw [e]
  exact List.filter_sublist
theorem up_of_sub {l s : List (List Nat)} (hl : Up ltN l) (h : s.Sublist l) : Up ltN s := List.Pairwise.sublist h hl
theorem up_full {l s : List (List Nat)} (hl : Up ltN l) (h : s.Sublist l) (e : l.length ≤ s.length) : s = l := h.eq_of_length_le e
theorem isort_id {l : List (List Nat)} (h : Up ltN l) : isort ltN l = l := by rw [isort_sof _ (up_nodup oN h), sof_id oN h]
theorem while_go {t : T → Rs Bool} {b : T → SR} {n : Nat} {τ τ1 τ2 : T} (h1 : t τ = .ok true τ1) (h2 : b τ1 = .nx τ2) : whileL t b (n + 1) τ = whileL t b n τ2 := by
  show (match t τ with
    | .ok true τ1 => (match b τ1 with
      | .nx τ' => whileL t b n τ'
      | .ct τ' => whileL t b n τ'
      | .bk τ' => .nx τ'
      | m => m)
    | .ok false τ1 => .nx τ1
    | .exc x τ1 => .exc x τ1
    | .stuck => .stuck) = _
  rw [h1]
  show (match b τ1 with
      | .nx τ' => whileL t b n τ'
      | .ct τ' => whileL t b n τ'
      | .bk τ' => .nx τ'
      | m => m) = _
  rw [h2]
theorem while_end {t : T → Rs Bool} {b : T → SR} {n : Nat} {τ τ1 : T} (h1 : t τ = .ok false τ1) : whileL t b (n + 1) τ = .nx τ1 := by
  show (match t τ with
    | .ok true τ1 => (match b τ1 with
      | .nx τ' => whileL t b n τ'
      | .ct τ' => whileL t b n τ'
      | .bk τ' => .nx τ'
      | m => m)
    | .ok false τ1 => .nx τ1
    | .exc x τ1 => .exc x τ1
    | .stuck => .stuck) = _
  rw [h1]
theorem sWhile_eq (t : T → Rs Bool) (b : T → SR) (τ : T) : sWhile t b τ = whileL t b fuel τ := rfl
end U
end

section
set_option Elab.async false
set_option linter.all false
set_option maxRecDepth 100000
namespace U
open PySem PySem.Spec PyProof.Rows L2
theorem intsOf_map : ∀ ns : List Int, U.intsOf (ns.map D.int) = some ns
  | [] => rfl
  | n :: ns => by
    show (U.intsOf (ns.map D.int)).map (n :: ·) = _
    rw [intsOf_map ns]; rfl
theorem maxI_is {m : Int} : ∀ (ns : List Int) (n : Int), m ∈ n :: ns → (∀ x ∈ n :: ns, x ≤ m) → maxI n ns = m
  | [], n, h, _ => (List.mem_singleton.mp h).symm
  | k :: ns, n, h, hl => by
    show maxI (if n < k then k else n) ns = m
    have h1 := hl n (List.mem_cons_self ..)
    have h2 := hl k (List.mem_cons_of_mem _ (List.mem_cons_self ..))
    refine maxI_is ns _ ?_ fun x hx => ?_
    · rcases List.mem_cons.mp h with q | q
      · split
        · omega
        · rw [q]; exact List.mem_cons_self ..
      · rcases List.mem_cons.mp q with q | q
        · split
          · rw [q]; exact List.mem_cons_self ..
          · have : n = m := by omega
            rw [this]; exact List.mem_cons_self ..
        · exact List.mem_cons_of_mem _ q
    · rcases List.mem_cons.mp hx with q | q
      · rw [q]; split <;> omega
      · exact hl x (List.mem_cons_of_mem _ (List.mem_cons_of_mem _ q))
theorem gMax_is {α : Type} {f : α → Nat} {l : List α} {m : Nat} (h : ∃ x ∈ l, f x = m) (hl : ∀ x ∈ l, f x ≤ m) : gMax [.lst (l.map fun x => .int ((f x : Nat) : Int))] = some (.d (.int (m : Int))) := by
  have e : l.map (fun x => D.int ((f x : Nat) : Int)) = (l.map fun x => ((f x : Nat) : Int)).map D.int := by rw [List.map_map]; rfl
  obtain ⟨x, hx, rfl⟩ := h
  cases l with
  | nil => cases hx
  | cons a l =>
    show (match U.intsOf ((a :: l).map fun x => D.int ((f x : Nat) : Int)) with
      | some (n :: ns) => some (PR.d (.int (maxI n ns)))
      | _ => none) = _
    rw [e, intsOf_map]
    show some (PR.d (.int (maxI ((f a : Nat) : Int) (l.map fun x => ((f x : Nat) : Int))))) = _
    rw [maxI_is (m := ((f x : Nat) : Int)) _ _ (by
      rw [← List.map_cons (f := fun x => ((f x : Nat) : Int))]
      exact List.mem_map.mpr ⟨x, hx, rfl⟩) fun z hz => by
      rw [← List.map_cons (f := fun x => ((f x : Nat) : Int))] at hz
      obtain ⟨y, hy, rfl⟩ := List.mem_map.mp hz
      have := hl y hy
      omega]
end U
end

section
set_option Elab.async false
set_option linter.all false
set_option maxRecDepth 100000
set_option maxHeartbeats 2000000
namespace U
open PySem PySem.Spec PyProof.Rows L2
/-! ### list(range(n)) -/
def sLstRg (f : T → Rs D) : T → Rs PR := fun τ => (f τ).bind fun d τ1 => match d with
  | .int j => if j.natAbs ≤ 1000 then .ok (.o (.l (rng 0 j.toNat))) τ1 else .stuck
  | _ => .stuck
theorem rng_rep {K : PySem.W.Frag} {F : Hp} (n : Int) : RepL K F (rgV 0 n) (rng 0 n.toNat) := by
  unfold rgV rng
  rw [Int.sub_zero]
  generalize List.range n.toNat = l
  induction l with
  | nil => exact .nil
  | cons i l ih => exact .cons (.int _) ih
section
variable {px : PX} {W : WX} {X : Cx} {a : Expr} {p p2 pos pos2 : Pos}
theorem jx_listRg {f : T → Rs D} (hc : X.calm = true) (hg : Gl X "list") (hm : X.mg "list" = none) (hg2 : Gl X "range") (hm2 : X.mg "range" = none) (ha : JE px W X a f)
    (hs : starEach [a] X.env = (false, eval a X.env) :: starEach [] X.env) (hs2 : starEach [.Call (.Name "range" p2) [a] [] pos2] X.env = (false, eval (.Call (.Name "range" p2) [a] [] pos2) X.env) :: starEach [] X.env) :
    JX px W X (.Call (.Name "list" p) [.Call (.Name "range" p2) [a] [] pos2] [] pos) (sLstRg f) := by
  refine PE.imp (pe_listRg hc hg hm (prg_1 hg2 hm2 ha hs) hs2) fun σ H Q ⟨M, F, τ, s, q⟩ => rdE_bind s q fun d τ1 F1 H1 v g1 s1 rv p1 => ?_
  cases d <;> first | exact p1.elim | skip
  rename_i j
  cases rv
  by_cases c : j.natAbs ≤ 1000
  · have p1 : Post X.K px W M F1 H1 σ (if j.natAbs ≤ 1000 then Rs.ok (PR.o (.l (rng 0 j.toNat))) τ1 else .stuck) _ := p1
    rw [if_pos c] at p1
    refine ⟨j, rfl, ⟨by omega, by omega, by omega, by omega, by omega⟩, ?_⟩
    exact (p1.pw s1).lst s1.sub (rng_rep j)
  · have p1 : Post X.K px W M F1 H1 σ (if j.natAbs ≤ 1000 then Rs.ok (PR.o (.l (rng 0 j.toNat))) τ1 else .stuck) _ := p1
    rw [if_neg c] at p1
    exact p1.elim
end
theorem evl12 : (∀ f τ, sLstRg f τ = (f τ).bind fun d τ1 => match d with
  | .int j => if j.natAbs ≤ 1000 then .ok (.o (.l (rng 0 j.toNat))) τ1 else .stuck
  | _ => .stuck) := fun _ _ => rfl
end U
end

section
set_option Elab.async false
set_option linter.all false
set_option maxRecDepth 100000
namespace U
open PySem PySem.Spec PyProof.Rows L2
theorem star_eq (f : T → Rs BR) (g : T → Rs (List D)) (τ : T) : sStar f g τ = (f τ).bind fun x τ1 => match x.at τ1 with
  | some (.tup xs) => (g τ1).bind fun ds τ2 => .ok (xs ++ ds) τ2
  | some (.lst xs) => (g τ1).bind fun ds τ2 => .ok (xs ++ ds) τ2
  | _ => .stuck := rfl
theorem gTp_l (n : Nat) (g : List D → T → Option T) (xs : List D) (τ : T) : gTp n g (.lst xs) τ = (if xs.length = n then g xs τ else none) ∧ gTp n g (.tup xs) τ = (if xs.length = n then g xs τ else none) := ⟨rfl, rfl⟩
/-! loops by invariants -/
section
variable {α : Type} {g : α → D}
theorem forL_pre {body : D → T → SR} (I : List α → T → Prop) (xs : List α) {τ : T} (h0 : I [] τ) (h : ∀ pre x post τ, xs = pre ++ x :: post → I pre τ → ∃ τ', body (g x) τ = .nx τ' ∧ I (pre ++ [x]) τ') : ∃ τ', forL body (xs.map g) τ = .nx τ' ∧ I xs τ' := by
  have key : ∀ (ys pre : List α) (τ : T), xs = pre ++ ys → I pre τ → ∃ τ', forL body (ys.map g) τ = .nx τ' ∧ I (pre ++ ys) τ' := fun ys => by
    induction ys with
    | nil => intro pre τ _ hI; exact ⟨τ, rfl, by rw [List.append_nil]; exact hI⟩
    | cons y ys ih =>
      intro pre τ e hI
      obtain ⟨τ1, e1, h1⟩ := h pre y ys τ e hI
      obtain ⟨τ2, e2, h2⟩ := ih (pre ++ [y]) τ1 (by rw [e]; simp) h1
      refine ⟨τ2, ?_, by simpa using h2⟩
      rw [List.map_cons, forL_step e1]
      exact e2
  have := key xs [] τ rfl h0
  simpa using this
theorem forL_numb {body : D → T → SR} (I : List α → T → Prop) (xs : List α) {τ : T} (h0 : I [] τ) (h : ∀ pre x post τ, xs = pre ++ x :: post → I pre τ → ∃ τ', body (.tup [.int (pre.length : Int), g x]) τ = .nx τ' ∧ I (pre ++ [x]) τ') : ∃ τ', forL body (numb 0 (xs.map g)) τ = .nx τ' ∧ I xs τ' := by
  have key : ∀ (ys pre : List α) (τ : T), xs = pre ++ ys → I pre τ → ∃ τ', forL body (numb pre.length (ys.map g)) τ = .nx τ' ∧ I (pre ++ ys) τ' := fun ys => by
    induction ys with
    | nil => intro pre τ _ hI; exact ⟨τ, rfl, by rw [List.append_nil]; exact hI⟩
    | cons y ys ih =>
      intro pre τ e hI
      obtain ⟨τ1, e1, h1⟩ := h pre y ys τ e hI
      obtain ⟨τ2, e2, h2⟩ := ih (pre ++ [y]) τ1 (by rw [e]; simp) h1
      refine ⟨τ2, ?_, by simpa using h2⟩
      rw [List.map_cons]
      show forL body (.tup [.int (pre.length : Int), g y] :: numb (pre.length + 1) (ys.map g)) τ = _
      rw [forL_step e1]
      rw [List.length_append, List.length_singleton] at e2
      exact e2
  have := key xs [] τ rfl h0
  simpa using this
theorem compL_pre {f : D → T → Rs (Option D)} (I : List α → T → List D → Prop) (xs : List α) (hl : xs.length ≤ lim) {τ : T} (h0 : I [] τ []) (h : ∀ pre x post τ acc, xs = pre ++ x :: post → I pre τ acc → ∃ τ', (f (g x) τ = .ok none τ' ∧ I (pre ++ [x]) τ' acc) ∨ ∃ z, f (g x) τ = .ok (some z) τ' ∧ I (pre ++ [x]) τ' (acc ++ [z])) : ∃ τ' acc, compL f (xs.map g) τ [] = .ok acc τ' ∧ I xs τ' acc := by
  have key : ∀ (ys pre : List α) (τ : T) (acc : List D), xs = pre ++ ys → acc.length ≤ pre.length → I pre τ acc → ∃ τ' acc', compL f (ys.map g) τ acc = .ok acc' τ' ∧ I (pre ++ ys) τ' acc' := fun ys => by
    induction ys with
    | nil => intro pre τ acc _ _ hI; exact ⟨τ, acc, rfl, by rw [List.append_nil]; exact hI⟩
    | cons y ys ih =>
      intro pre τ acc e hla hI
      have hxl : xs.length = pre.length + (ys.length + 1) := by rw [e, List.length_append, List.length_cons]
      obtain ⟨τ1, h1⟩ := h pre y ys τ acc e hI
      rcases h1 with ⟨e1, h1⟩ | ⟨z, e1, h1⟩
      · obtain ⟨τ2, acc2, e2, h2⟩ := ih (pre ++ [y]) τ1 acc (by rw [e]; simp) (by simp; omega) h1
        refine ⟨τ2, acc2, ?_, by simpa using h2⟩
        rw [List.map_cons, compL_skip e1]
        exact e2
      · obtain ⟨τ2, acc2, e2, h2⟩ := ih (pre ++ [y]) τ1 (acc ++ [z]) (by rw [e]; simp) (by simp; omega) h1
        refine ⟨τ2, acc2, ?_, by simpa using h2⟩
        rw [List.map_cons, compL_go e1 (by omega)]
        exact e2
  have := key xs [] τ [] rfl (Nat.le_refl _) h0
  simpa using this
end
end U
end

section
set_option Elab.async false
set_option linter.all false
set_option maxRecDepth 100000
set_option maxHeartbeats 0
namespace U
open PySem PySem.Spec PyProof.Rows L2
section
variable {P : Program} {w : World} {K : PySem.W.Frag} {mg : Str → Option Value} {base : Heap}
def top (i : Nat) : Stmt := PySem.Challenge.pw_upbyany_k36_who_can_be_last_and_who_is_l.main.body.getD i (.Pass ⟨0, 0, 0, 0⟩)
def xcs : List Nat := [0]
def GCs (mg : Str → Option Value) : Prop := True
/-! set_of -/
def N_set_of : List Str := ["some"]
theorem sc_set_of : FnScope N_set_of ["some"] (defScope (top 3)) := ⟨rfl, rfl, rfl, by decide +kernel, rfl, by decide +kernel, by decide +kernel⟩
def f_set_of : T → SR :=
  sRet (sCB (g1 gTuple) (sBCons (toB (frz (sCB (g1 gSS) (sBCons (sRd 0) (sBNil))))) (sBNil)))
def den_set_of : List Sl → DR := run 0 f_set_of
theorem ok_set_of (B : Blt mg) (B2 : B2s mg) (XK : xAll xcs K = true) (XG : ∀ c ∈ xcs, mg (xName c) = some (.ref (xC K c))) (GC : GCs mg) (XR_0 : XRs P w K mg base 0 "name") (D_set_of : DefOk K mg "set_of" (top 3) ["some"])  : Callee P w K mg base (pxK K) "set_of" (defArgs (top 3)) ["some"] 1 den_set_of := by
  have scN := sc_set_of
  refine callee (k := 0) (m := 0) (g := f_set_of) D_set_of sc_set_of rfl fun f cdv A outer s H E hr tk po => ?_
  have hu64 := hr.units
  have hu65 : (A.deeper (envOfC "set_of" (defScope (top 3)) s.heap.objs.size f cdv)).units + 65 < cLine := by have := hr.un; omega
  have hu1 : (A.deeper (envOfC "set_of" (defScope (top 3)) s.heap.objs.size f cdv)).units + 1 < cLine := by have := hr.un; omega
  exact jss_one (js_ret (jx_callTy (cr_tupleU rfl) rfl B.tuple boot_tuple (jab_cons (JE.b (JX.frz (jx_ss rfl hu64 rfl B.sorted rfl B.set (jab_cons (jb_rd (pv 0)) (jab_nil) rfl) rfl))) (jab_nil) rfl) (by decide) (by decide) rfl rfl))
/-! tupled -/
def N_tupled : List Str := ["value", "part"]
theorem sc_tupled : FnScope N_tupled ["value"] (defScope (top 4)) := ⟨rfl, rfl, rfl, by decide +kernel, rfl, by decide +kernel, by decide +kernel⟩
def f_tupled (dself : List Sl → DR) : T → SR :=
  sRet (sIte (sTru (toB (frz (sIsi ["list", "tuple"] (sRd 0))))) (sCB (g1 gTuple) (sBCons (toB (frz (sLc (sItems (frz (sVar 0))) (gNm 1) (fun τ => .ok true τ) (frz (sCall dself (sBCons (toB (frz (sVar 1))) (sBNil)))) [1]))) (sBNil))) (sVar 0))
def den_tupled : Nat → List Sl → DR
  | 0 => fun _ => .stuck
  | n + 1 => run 1 (f_tupled (den_tupled n))
def c0_tupled (dself : List Sl → DR) : D → T → Rs (Option D) :=
  turnC (gNm 1) (fun τ => .ok true τ) (frz (sCall dself (sBCons (toB (frz (sVar 1))) (sBNil)))) [1]
theorem nE_tupled (dself : List Sl → DR) : f_tupled dself = (sRet (sIte (sTru (toB (frz (sIsi ["list", "tuple"] (sRd 0))))) (sCB (g1 gTuple) (sBCons (toB (frz (sLcB (sItems (frz (sVar 0))) (c0_tupled dself) [1]))) (sBNil))) (sVar 0))) := rfl
theorem ok_tupled (B : Blt mg) (B2 : B2s mg) (XK : xAll xcs K = true) (XG : ∀ c ∈ xcs, mg (xName c) = some (.ref (xC K c))) (GC : GCs mg) (XR_0 : XRs P w K mg base 0 "name") (D_tupled : DefOk K mg "tupled" (top 4) ["value"])  : ∀ n : Nat, Callee P w K mg base (pxK K) "tupled" (defArgs (top 4)) ["value"] (n + 0) (den_tupled n)
  | 0 => callee0 D_tupled
  | n + 1 => by
    have cself := ok_tupled B B2 XK XG GC XR_0 D_tupled  n
    have e1 : n + 1 + 0 = (n + 0) + 1 := by omega
    rw [e1]
    have scN := sc_tupled
    refine callee (k := n + 0) (m := 1) (g := f_tupled (den_tupled n)) D_tupled sc_tupled rfl fun f cdv A outer s H E hr tk po => ?_
    have hu64 := hr.units
    have hu65 : (A.deeper (envOfC "tupled" (defScope (top 4)) s.heap.objs.size f cdv)).units + 65 < cLine := by have := hr.un; omega
    have hu1 : (A.deeper (envOfC "tupled" (defScope (top 4)) s.heap.objs.size f cdv)).units + 1 < cLine := by have := hr.un; omega
    exact jss_one (js_ret (jx_ife (jt_truth (JE.b (JX.frz (jx_isi2 rfl B.isinstance (jb_rd (pv 0)) rfl B.list boot_list (by decide) (by decide) (by decide) rfl B.tuple boot_tuple (by decide) (by decide) (by decide) rfl))) (fun _ => rfl)) (jx_callTy (cr_tupleU rfl) rfl B.tuple boot_tuple (jab_cons (JE.b (JX.frz (jx_lc (own := [("part", 1)]) rfl scN.nd (ji_any (JX.frz (jx_var (pv 0)))) (blkOk_by (own := [("part", 1)]) (N := N_tupled) (by kernel_rfl)) (fun _ _ _ _ _ => jg_name (pg_name (i := 1) scN.nd rfl (by first | exact Or.inl rfl | exact Or.inr rfl)) (by decide)) (fun _ _ _ _ _ => jts_nil) (fun _ _ _ _ _ => JX.frz (jx_own cself (hr.mono (by omega)) takes0 rfl (jab_cons (JE.b (JX.frz (jx_var (pv 1)))) (jab_nil) rfl) (blS bl0) (by decide) rfl rfl)) (fun _ => rfl)))) (jab_nil) rfl) (by decide) (by decide) rfl rfl) (jx_var (pv 0))))
/-! units -/
def N_units : List Str := ["book", "unit", "needs"]
theorem sc_units : FnScope N_units ["book"] (defScope (top 6)) := ⟨rfl, rfl, rfl, by decide +kernel, rfl, by decide +kernel, by decide +kernel⟩
def f_units : T → SR :=
  sRet (sCB (g1 gTuple) (sBCons (toB (frz (sLc (sItems (frz (sVar 0))) (gTp 2 (gN1 (gNm 1) (gN1 (gNm 2) (gN0)))) (fun τ => .ok true τ) (frz (sVar 1)) [1, 2]))) (sBNil)))
def den_units : List Sl → DR := run 2 f_units
def c0_units : D → T → Rs (Option D) :=
  turnC (gTp 2 (gN1 (gNm 1) (gN1 (gNm 2) (gN0)))) (fun τ => .ok true τ) (frz (sVar 1)) [1, 2]
theorem nE_units : f_units = (sRet (sCB (g1 gTuple) (sBCons (toB (frz (sLcB (sItems (frz (sVar 0))) c0_units [1, 2]))) (sBNil)))) := rfl
theorem ok_units (B : Blt mg) (B2 : B2s mg) (XK : xAll xcs K = true) (XG : ∀ c ∈ xcs, mg (xName c) = some (.ref (xC K c))) (GC : GCs mg) (XR_0 : XRs P w K mg base 0 "name") (D_units : DefOk K mg "units" (top 6) ["book"])  : Callee P w K mg base (pxK K) "units" (defArgs (top 6)) ["book"] 1 den_units := by
  have scN := sc_units
  refine callee (k := 0) (m := 2) (g := f_units) D_units sc_units rfl fun f cdv A outer s H E hr tk po => ?_
  have hu64 := hr.units
  have hu65 : (A.deeper (envOfC "units" (defScope (top 6)) s.heap.objs.size f cdv)).units + 65 < cLine := by have := hr.un; omega
  have hu1 : (A.deeper (envOfC "units" (defScope (top 6)) s.heap.objs.size f cdv)).units + 1 < cLine := by have := hr.un; omega
  exact jss_one (js_ret (jx_callTy (cr_tupleU rfl) rfl B.tuple boot_tuple (jab_cons (JE.b (JX.frz (jx_lc (own := [("unit", 1), ("needs", 2)]) rfl scN.nd (ji_any (JX.frz (jx_var (pv 0)))) (blkOk_by (own := [("unit", 1), ("needs", 2)]) (N := N_units) (by kernel_rfl)) (fun _ _ _ _ _ => jg_tup rfl (jgs_cons (jg_name (pg_name (i := 1) scN.nd rfl (by first | exact Or.inl rfl | exact Or.inr rfl)) (by decide)) (jgs_cons (jg_name (pg_name (i := 2) scN.nd rfl (by first | exact Or.inl rfl | exact Or.inr rfl)) (by decide)) (jgs_nil) rfl) rfl) rfl rfl) (fun _ _ _ _ _ => jts_nil) (fun _ _ _ _ _ => JX.frz (jx_var (pv 1))) (fun _ => rfl)))) (jab_nil) rfl) (by decide) (by decide) rfl rfl))
/-! check_units -/
def N_check_units : List Str := ["book", "some", "known", "unit"]
theorem sc_check_units : FnScope N_check_units ["book", "some"] (defScope (top 7)) := ⟨rfl, rfl, rfl, by decide +kernel, rfl, by decide +kernel, by decide +kernel⟩
def f_check_units : T → SR :=
  sSeq (sSet 2 (sCall den_units (sBCons (toB (frz (sVar 0))) (sBNil)))) (sFor (sItems (frz (sVar 1))) (gNm 3) (sIfS (sTB (sOp2 (gIn true) (sRd 3) (sRd 2))) (sRaise1 0 (frz (sVar 3))) (sNext)))
def den_check_units : List Sl → DR := run 2 f_check_units
def b0_check_units : D → T → SR :=
  sBody (gNm 3) (sIfS (sTB (sOp2 (gIn true) (sRd 3) (sRd 2))) (sRaise1 0 (frz (sVar 3))) (sNext))
theorem nE_check_units : f_check_units = (sSeq (sSet 2 (sCall den_units (sBCons (toB (frz (sVar 0))) (sBNil)))) (sForB (sItems (frz (sVar 1))) b0_check_units)) := rfl
theorem ok_check_units (B : Blt mg) (B2 : B2s mg) (XK : xAll xcs K = true) (XG : ∀ c ∈ xcs, mg (xName c) = some (.ref (xC K c))) (GC : GCs mg) (XR_0 : XRs P w K mg base 0 "name") (D_check_units : DefOk K mg "check_units" (top 7) ["book", "some"]) (C_units : Callee P w K mg base (pxK K) "units" (defArgs (top 6)) ["book"] 1 den_units) : Callee P w K mg base (pxK K) "check_units" (defArgs (top 7)) ["book", "some"] 3 den_check_units := by
  have scN := sc_check_units
  refine callee (k := 2) (m := 2) (g := f_check_units) D_check_units sc_check_units rfl fun f cdv A outer s H E hr tk po => ?_
  have hu64 := hr.units
  have hu65 : (A.deeper (envOfC "check_units" (defScope (top 7)) s.heap.objs.size f cdv)).units + 65 < cLine := by have := hr.un; omega
  have hu1 : (A.deeper (envOfC "check_units" (defScope (top 7)) s.heap.objs.size f cdv)).units + 1 < cLine := by have := hr.un; omega
  exact jss_cons (js_asg (ps_set (i := 2) scN.nd rfl (by first | exact Or.inl rfl | exact Or.inr rfl) (jx_own C_units (hr.mono (by decide)) tk rfl (jab_cons (JE.b (JX.frz (jx_var (pv 0)))) (jab_nil) rfl) (blS bl0) (by decide) rfl rfl) (by first | rfl | exact sw_false_name | decide)) (fun _ _ _ h => h))
      (jss_one (js_for (gs := [3]) po rfl (ji_any (JX.frz (jx_var (pv 1)))) (jg_name (pg_name (i := 3) scN.nd rfl (by first | exact Or.inl rfl | exact Or.inr rfl)) (by decide)) (jss_one (js_if (jt_cmp (op_notInU hu65) (jb_rd (pv 3)) (jb_rd (pv 2)) rfl) (jss_one (js_raiseX XR_0 rfl rfl tk (hr.mono (by decide)) rfl (by decide) (JX.frz (jx_var (pv 3))) rfl)) (jss_nil))) (fun _ => rfl)))
/-! table_of -/
def N_table_of : List Str := ["book", "unit", "needs"]
theorem sc_table_of : FnScope N_table_of ["book"] (defScope (top 8)) := ⟨rfl, rfl, rfl, by decide +kernel, rfl, by decide +kernel, by decide +kernel⟩
def f_table_of : T → SR :=
  sRet (sDc (sItems (frz (sVar 0))) (gTp 2 (gN1 (gNm 1) (gN1 (gNm 2) (gN0)))) (fun τ => .ok true τ) (frz (sVar 1)) (frz (sCall (den_tupled 12) (sBCons (toB (frz (sVar 2))) (sBNil)))) [1, 2])
def den_table_of : List Sl → DR := run 2 f_table_of
def d0_table_of : D → T → Rs (Option (D × D)) :=
  turnK (gTp 2 (gN1 (gNm 1) (gN1 (gNm 2) (gN0)))) (fun τ => .ok true τ) (frz (sVar 1)) (frz (sCall (den_tupled 12) (sBCons (toB (frz (sVar 2))) (sBNil)))) [1, 2]
theorem nE_table_of : f_table_of = (sRet (sDcB (sItems (frz (sVar 0))) d0_table_of [1, 2])) := rfl
theorem ok_table_of (B : Blt mg) (B2 : B2s mg) (XK : xAll xcs K = true) (XG : ∀ c ∈ xcs, mg (xName c) = some (.ref (xC K c))) (GC : GCs mg) (XR_0 : XRs P w K mg base 0 "name") (D_table_of : DefOk K mg "table_of" (top 8) ["book"]) (C_tupled : Callee P w K mg base (pxK K) "tupled" (defArgs (top 4)) ["value"] 12 (den_tupled 12)) : Callee P w K mg base (pxK K) "table_of" (defArgs (top 8)) ["book"] 13 den_table_of := by
  have scN := sc_table_of
  refine callee (k := 12) (m := 2) (g := f_table_of) D_table_of sc_table_of rfl fun f cdv A outer s H E hr tk po => ?_
  have hu64 := hr.units
  have hu65 : (A.deeper (envOfC "table_of" (defScope (top 8)) s.heap.objs.size f cdv)).units + 65 < cLine := by have := hr.un; omega
  have hu1 : (A.deeper (envOfC "table_of" (defScope (top 8)) s.heap.objs.size f cdv)).units + 1 < cLine := by have := hr.un; omega
  exact jss_one (js_ret (jx_dc (own := [("unit", 1), ("needs", 2)]) rfl scN.nd (ji_any (JX.frz (jx_var (pv 0)))) (blkOk_by (own := [("unit", 1), ("needs", 2)]) (N := N_table_of) (by kernel_rfl)) (fun _ _ _ _ _ => jg_tup rfl (jgs_cons (jg_name (pg_name (i := 1) scN.nd rfl (by first | exact Or.inl rfl | exact Or.inr rfl)) (by decide)) (jgs_cons (jg_name (pg_name (i := 2) scN.nd rfl (by first | exact Or.inl rfl | exact Or.inr rfl)) (by decide)) (jgs_nil) rfl) rfl) rfl rfl) (fun _ _ _ _ _ => jts_nil) (fun _ _ _ _ _ => JX.frz (jx_var (pv 1))) (fun _ _ _ _ _ => JX.frz (jx_own C_tupled (hr.mono (by decide)) takes0 rfl (jab_cons (JE.b (JX.frz (jx_var (pv 2)))) (jab_nil) rfl) (blS bl0) (by decide) rfl rfl)) (fun _ => rfl)))
/-! lets -/
def N_lets : List Str := ["table", "up", "unit", "need", "one"]
theorem sc_lets : FnScope N_lets ["table", "up", "unit"] (defScope (top 9)) := ⟨rfl, rfl, rfl, by decide +kernel, rfl, by decide +kernel, by decide +kernel⟩
def f_lets : T → SR :=
  sRet (sAndV (sOp2 (gIn true) (sRd 2) (sRd 1)) (sCB (g1 gAny) (sBCons (toB (frz (sLc (sItems (frz (sOp2 gIx (sRd 0) (sRd 2)))) (gNm 3) (fun τ => .ok true τ) (frz (sCB (g1 gAll) (sBCons (toB (frz (sLc (sItems (frz (sVar 3))) (gNm 4) (fun τ => .ok true τ) (frz (sOp2 (gIn false) (sRd 4) (sRd 1))) [4]))) (sBNil)))) [3]))) (sBNil))))
def den_lets : List Sl → DR := run 2 f_lets
def c0_lets : D → T → Rs (Option D) :=
  turnC (gNm 4) (fun τ => .ok true τ) (frz (sOp2 (gIn false) (sRd 4) (sRd 1))) [4]
def c1_lets : D → T → Rs (Option D) :=
  turnC (gNm 3) (fun τ => .ok true τ) (frz (sCB (g1 gAll) (sBCons (toB (frz (sLcB (sItems (frz (sVar 3))) c0_lets [4]))) (sBNil)))) [3]
theorem nE_lets : f_lets = (sRet (sAndV (sOp2 (gIn true) (sRd 2) (sRd 1)) (sCB (g1 gAny) (sBCons (toB (frz (sLcB (sItems (frz (sOp2 gIx (sRd 0) (sRd 2)))) c1_lets [3]))) (sBNil))))) := rfl
theorem ok_lets (B : Blt mg) (B2 : B2s mg) (XK : xAll xcs K = true) (XG : ∀ c ∈ xcs, mg (xName c) = some (.ref (xC K c))) (GC : GCs mg) (XR_0 : XRs P w K mg base 0 "name") (D_lets : DefOk K mg "lets" (top 9) ["table", "up", "unit"])  : Callee P w K mg base (pxK K) "lets" (defArgs (top 9)) ["table", "up", "unit"] 1 den_lets := by
  have scN := sc_lets
  refine callee (k := 0) (m := 2) (g := f_lets) D_lets sc_lets rfl fun f cdv A outer s H E hr tk po => ?_
  have hu64 := hr.units
  have hu65 : (A.deeper (envOfC "lets" (defScope (top 9)) s.heap.objs.size f cdv)).units + 65 < cLine := by have := hr.un; omega
  have hu1 : (A.deeper (envOfC "lets" (defScope (top 9)) s.heap.objs.size f cdv)).units + 1 < cLine := by have := hr.un; omega
  exact jss_one (js_ret (jx_and (jx_cmp (op_notInU hu65) (jb_rd (pv 2)) (jb_rd (pv 1)) rfl) (jx_one (jx_callB (cr_anyU rfl) rfl B.any boot_any (jab_cons (JE.b (JX.frz (jx_lc (own := [("need", 3)]) rfl scN.nd (ji_any (JX.frz (jx_ix (ix_U hu1) (jb_rd (pv 0)) (jb_rd (pv 2)) (fun _ _ => rfl)))) (blkOk_by (own := [("need", 3)]) (N := N_lets) (by kernel_rfl)) (fun _ _ _ _ _ => jg_name (pg_name (i := 3) scN.nd rfl (by first | exact Or.inl rfl | exact Or.inr rfl)) (by decide)) (fun _ _ _ _ _ => jts_nil) (fun _ _ _ _ _ => JX.frz (jx_callB (cr_allU rfl) rfl B.all boot_all (jab_cons (JE.b (JX.frz (jx_lc (own := [("one", 4)]) rfl scN.nd (ji_any (JX.frz (jx_var (pv 3)))) (blkOk_by (own := [("one", 4)]) (N := N_lets) (by kernel_rfl)) (fun _ _ _ _ _ => jg_name (pg_name (i := 4) scN.nd rfl (by first | exact Or.inl rfl | exact Or.inr rfl)) (by decide)) (fun _ _ _ _ _ => jts_nil) (fun _ _ _ _ _ => JX.frz (jx_cmp (op_inU hu65) (jb_rd (pv 4)) (jb_rd (pv 1)) rfl)) (fun _ => rfl)))) (jab_nil) rfl) (by decide) (by decide) rfl rfl)) (fun _ => rfl)))) (jab_nil) rfl) (by decide) (by decide) rfl rfl))))
/-! row_within -/
def N_row_within : List Str := ["book", "some", "table", "found", "grown", "later", "unit"]
theorem sc_row_within : FnScope N_row_within ["book", "some"] (defScope (top 10)) := ⟨rfl, rfl, rfl, by decide +kernel, rfl, by decide +kernel, by decide +kernel⟩
def f_row_within : T → SR :=
  sSeq (sUnp (gTp 3 (gN1 (gNm 2) (gN1 (gNm 3) (gN1 (gNm 4) (gN0))))) (frz (sTup (sCons (frz (sCall den_table_of (sBCons (toB (frz (sVar 0))) (sBNil)))) (sCons (frz (sTup (sNil))) (sCons (frz (sC (.bl true))) (sNil))))))) (sSeq (sWhile (sTru (sRd 4)) (sSeq (sFzS [2, 3] (sSet 5 (sLc (sItems (frz (sVar 1))) (gNm 6) (sTru (toB (frz (sCall den_lets (sBCons (toB (frz (sVar 2))) (sBCons (toB (frz (sVar 3))) (sBCons (toB (frz (sVar 6))) (sBNil)))))))) (frz (sVar 6)) [6]))) (sSeq (sSet 4 (sOp2 (gCmp .gt) (toB (frz (sCB (g1 gLen) (sBCons (sRd 5) (sBNil))))) (toB (frz (sC (.int 0)))))) (sSet 3 (sIte (sTru (sRd 4)) (sTup (sStar (sRd 3) (sCons (frz (sOp2 gIx (sRd 5) (toB (frz (sC (.int 0)))))) (sNil)))) (sVar 3)))))) (sRetV 3))
def den_row_within : List Sl → DR := run 5 f_row_within
def c0_row_within : D → T → Rs (Option D) :=
  turnC (gNm 6) (sTru (toB (frz (sCall den_lets (sBCons (toB (frz (sVar 2))) (sBCons (toB (frz (sVar 3))) (sBCons (toB (frz (sVar 6))) (sBNil)))))))) (frz (sVar 6)) [6]
theorem nE_row_within : f_row_within = (sSeq (sUnp (gTp 3 (gN1 (gNm 2) (gN1 (gNm 3) (gN1 (gNm 4) (gN0))))) (frz (sTup (sCons (frz (sCall den_table_of (sBCons (toB (frz (sVar 0))) (sBNil)))) (sCons (frz (sTup (sNil))) (sCons (frz (sC (.bl true))) (sNil))))))) (sSeq (sWhile (sTru (sRd 4)) (sSeq (sFzS [2, 3] (sSet 5 (sLcB (sItems (frz (sVar 1))) c0_row_within [6]))) (sSeq (sSet 4 (sOp2 (gCmp .gt) (toB (frz (sCB (g1 gLen) (sBCons (sRd 5) (sBNil))))) (toB (frz (sC (.int 0)))))) (sSet 3 (sIte (sTru (sRd 4)) (sTup (sStar (sRd 3) (sCons (frz (sOp2 gIx (sRd 5) (toB (frz (sC (.int 0)))))) (sNil)))) (sVar 3)))))) (sRetV 3))) := rfl
theorem ok_row_within (B : Blt mg) (B2 : B2s mg) (XK : xAll xcs K = true) (XG : ∀ c ∈ xcs, mg (xName c) = some (.ref (xC K c))) (GC : GCs mg) (XR_0 : XRs P w K mg base 0 "name") (D_row_within : DefOk K mg "row_within" (top 10) ["book", "some"]) (C_table_of : Callee P w K mg base (pxK K) "table_of" (defArgs (top 8)) ["book"] 13 den_table_of) (C_lets : Callee P w K mg base (pxK K) "lets" (defArgs (top 9)) ["table", "up", "unit"] 1 den_lets) : Callee P w K mg base (pxK K) "row_within" (defArgs (top 10)) ["book", "some"] 14 den_row_within := by
  have scN := sc_row_within
  refine callee (k := 13) (m := 5) (g := f_row_within) D_row_within sc_row_within rfl fun f cdv A outer s H E hr tk po => ?_
  have hu64 := hr.units
  have hu65 : (A.deeper (envOfC "row_within" (defScope (top 10)) s.heap.objs.size f cdv)).units + 65 < cLine := by have := hr.un; omega
  have hu1 : (A.deeper (envOfC "row_within" (defScope (top 10)) s.heap.objs.size f cdv)).units + 1 < cLine := by have := hr.un; omega
  exact jss_cons (js_unp (gs := [2, 3, 4]) (jg_tup rfl (jgs_cons (jg_name (pg_name (i := 2) scN.nd rfl (by first | exact Or.inl rfl | exact Or.inr rfl)) (by decide)) (jgs_cons (jg_name (pg_name (i := 3) scN.nd rfl (by first | exact Or.inl rfl | exact Or.inr rfl)) (by decide)) (jgs_cons (jg_name (pg_name (i := 4) scN.nd rfl (by first | exact Or.inl rfl | exact Or.inr rfl)) (by decide)) (jgs_nil) rfl) rfl) rfl) rfl rfl) (JX.frz (jx_tup (ja_cons (JX.frz (jx_own C_table_of (hr.mono (by decide)) tk rfl (jab_cons (JE.b (JX.frz (jx_var (pv 0)))) (jab_nil) rfl) (blS bl0) (by decide) rfl rfl)) (ja_cons (JX.frz (jx_tup (ja_nil))) (ja_cons (JX.frz (jx_bl)) (ja_nil) rfl) rfl) rfl))) rfl rfl rfl)
      (jss_cons (js_while po (jt_truth (jb_rd (pv 4)) (fun _ => rfl)) (jss_cons (js_fz [2, 3] (js_setLc (i := 5) (own := [("unit", 6)]) rfl scN.nd rfl rfl (sw_true rfl rfl rfl (by decide +kernel)) (ji_any (JX.frz (jx_var (pv 1)))) (blkOk_by (own := [("unit", 6)]) (N := N_row_within) (by kernel_rfl)) (fun _ _ _ _ _ => jg_name (pg_name (i := 6) scN.nd rfl (by first | exact Or.inl rfl | exact Or.inr rfl)) (by decide)) (fun _ _ _ _ _ => jts_one (jt_truth (JE.b (JX.frz (jx_own C_lets (hr.mono (by decide)) takes0 rfl (jab_cons (JE.b (JX.frz (jx_var (pv 2)))) (jab_cons (JE.b (JX.frz (jx_var (pv 3)))) (jab_cons (JE.b (JX.frz (jx_var (pv 6)))) (jab_nil) rfl) rfl) rfl) (blS (blS (blS bl0))) (by decide) rfl rfl))) (fun _ => rfl))) (fun _ _ _ _ _ => JX.frz (jx_var (pv 6))) (fun _ => rfl)))
      (jss_cons (js_asg (ps_set (i := 4) scN.nd rfl (by first | exact Or.inl rfl | exact Or.inr rfl) (jx_cmp (op_cmpU .gt hu64) (JE.b (JX.frz (jx_callB cr_lenU rfl B.len boot_len (jab_cons (jb_rd (pv 5)) (jab_nil) rfl) (by decide) (by decide) rfl rfl))) (JE.b (JX.frz (jx_int))) rfl) (by first | rfl | exact sw_false_name | decide)) (fun _ _ _ h => h))
      (jss_one (js_asg (ps_set (i := 3) scN.nd rfl (by first | exact Or.inl rfl | exact Or.inr rfl) (jx_ife (jt_truth (jb_rd (pv 4)) (fun _ => rfl)) (jx_tup (ja_star (jb_rd (pv 3)) (ja_cons (JX.frz (jx_ix (ix_U hu1) (jb_rd (pv 5)) (JE.b (JX.frz (jx_int))) (fun _ _ => rfl))) (ja_nil) rfl) rfl)) (jx_var (pv 3))) (by first | rfl | exact sw_false_name | decide)) (fun _ _ _ h => h))))))
      (jss_one (js_retV (pv 3))))
/-! greatest_within -/
def N_greatest_within : List Str := ["book", "some"]
theorem sc_greatest_within : FnScope N_greatest_within ["book", "some"] (defScope (top 11)) := ⟨rfl, rfl, rfl, by decide +kernel, rfl, by decide +kernel, by decide +kernel⟩
def f_greatest_within : T → SR :=
  sSeq (sDrop (sCall den_check_units (sBCons (toB (frz (sVar 0))) (sBCons (toB (frz (sVar 1))) (sBNil))))) (sRet (sCall den_set_of (sBCons (toB (frz (sCall den_row_within (sBCons (toB (frz (sVar 0))) (sBCons (toB (frz (sVar 1))) (sBNil)))))) (sBNil))))
def den_greatest_within : List Sl → DR := run 0 f_greatest_within
theorem ok_greatest_within (B : Blt mg) (B2 : B2s mg) (XK : xAll xcs K = true) (XG : ∀ c ∈ xcs, mg (xName c) = some (.ref (xC K c))) (GC : GCs mg) (XR_0 : XRs P w K mg base 0 "name") (D_greatest_within : DefOk K mg "greatest_within" (top 11) ["book", "some"]) (C_check_units : Callee P w K mg base (pxK K) "check_units" (defArgs (top 7)) ["book", "some"] 3 den_check_units) (C_set_of : Callee P w K mg base (pxK K) "set_of" (defArgs (top 3)) ["some"] 1 den_set_of) (C_row_within : Callee P w K mg base (pxK K) "row_within" (defArgs (top 10)) ["book", "some"] 14 den_row_within) : Callee P w K mg base (pxK K) "greatest_within" (defArgs (top 11)) ["book", "some"] 15 den_greatest_within := by
  have scN := sc_greatest_within
  refine callee (k := 14) (m := 0) (g := f_greatest_within) D_greatest_within sc_greatest_within rfl fun f cdv A outer s H E hr tk po => ?_
  have hu64 := hr.units
  have hu65 : (A.deeper (envOfC "greatest_within" (defScope (top 11)) s.heap.objs.size f cdv)).units + 65 < cLine := by have := hr.un; omega
  have hu1 : (A.deeper (envOfC "greatest_within" (defScope (top 11)) s.heap.objs.size f cdv)).units + 1 < cLine := by have := hr.un; omega
  exact jss_cons (js_expr (jx_own C_check_units (hr.mono (by decide)) tk rfl (jab_cons (JE.b (JX.frz (jx_var (pv 0)))) (jab_cons (JE.b (JX.frz (jx_var (pv 1)))) (jab_nil) rfl) rfl) (blS (blS bl0)) (by decide) rfl rfl) rfl)
      (jss_one (js_ret (jx_own C_set_of (hr.mono (by decide)) tk rfl (jab_cons (JE.b (JX.frz (jx_own C_row_within (hr.mono (by decide)) tk rfl (jab_cons (JE.b (JX.frz (jx_var (pv 0)))) (jab_cons (JE.b (JX.frz (jx_var (pv 1)))) (jab_nil) rfl) rfl) (blS (blS bl0)) (by decide) rfl rfl))) (jab_nil) rfl) (blS bl0) (by decide) rfl rfl)))
/-! whole -/
def N_whole : List Str := ["book"]
theorem sc_whole : FnScope N_whole ["book"] (defScope (top 12)) := ⟨rfl, rfl, rfl, by decide +kernel, rfl, by decide +kernel, by decide +kernel⟩
def f_whole : T → SR :=
  sRet (sCall den_greatest_within (sBCons (toB (frz (sVar 0))) (sBCons (toB (frz (sCall den_units (sBCons (toB (frz (sVar 0))) (sBNil))))) (sBNil))))
def den_whole : List Sl → DR := run 0 f_whole
theorem ok_whole (B : Blt mg) (B2 : B2s mg) (XK : xAll xcs K = true) (XG : ∀ c ∈ xcs, mg (xName c) = some (.ref (xC K c))) (GC : GCs mg) (XR_0 : XRs P w K mg base 0 "name") (D_whole : DefOk K mg "whole" (top 12) ["book"]) (C_greatest_within : Callee P w K mg base (pxK K) "greatest_within" (defArgs (top 11)) ["book", "some"] 15 den_greatest_within) (C_units : Callee P w K mg base (pxK K) "units" (defArgs (top 6)) ["book"] 1 den_units) : Callee P w K mg base (pxK K) "whole" (defArgs (top 12)) ["book"] 16 den_whole := by
  have scN := sc_whole
  refine callee (k := 15) (m := 0) (g := f_whole) D_whole sc_whole rfl fun f cdv A outer s H E hr tk po => ?_
  have hu64 := hr.units
  have hu65 : (A.deeper (envOfC "whole" (defScope (top 12)) s.heap.objs.size f cdv)).units + 65 < cLine := by have := hr.un; omega
  have hu1 : (A.deeper (envOfC "whole" (defScope (top 12)) s.heap.objs.size f cdv)).units + 1 < cLine := by have := hr.un; omega
  exact jss_one (js_ret (jx_own C_greatest_within (hr.mono (by decide)) tk rfl (jab_cons (JE.b (JX.frz (jx_var (pv 0)))) (jab_cons (JE.b (JX.frz (jx_own C_units (hr.mono (by decide)) tk rfl (jab_cons (JE.b (JX.frz (jx_var (pv 0)))) (jab_nil) rfl) (blS bl0) (by decide) rfl rfl))) (jab_nil) rfl) rfl) (blS (blS bl0)) (by decide) rfl rfl))
/-! without -/
def N_without : List Str := ["some", "unit", "one"]
theorem sc_without : FnScope N_without ["some", "unit"] (defScope (top 14)) := ⟨rfl, rfl, rfl, by decide +kernel, rfl, by decide +kernel, by decide +kernel⟩
def f_without : T → SR :=
  sRet (sCB (g1 gTuple) (sBCons (toB (frz (sLc (sItems (frz (sVar 0))) (gNm 2) (sTB (sOp2 (gEq true) (sRd 2) (sRd 1))) (frz (sVar 2)) [2]))) (sBNil)))
def den_without : List Sl → DR := run 1 f_without
def c0_without : D → T → Rs (Option D) :=
  turnC (gNm 2) (sTB (sOp2 (gEq true) (sRd 2) (sRd 1))) (frz (sVar 2)) [2]
theorem nE_without : f_without = (sRet (sCB (g1 gTuple) (sBCons (toB (frz (sLcB (sItems (frz (sVar 0))) c0_without [2]))) (sBNil)))) := rfl
theorem ok_without (B : Blt mg) (B2 : B2s mg) (XK : xAll xcs K = true) (XG : ∀ c ∈ xcs, mg (xName c) = some (.ref (xC K c))) (GC : GCs mg) (XR_0 : XRs P w K mg base 0 "name") (D_without : DefOk K mg "without" (top 14) ["some", "unit"])  : Callee P w K mg base (pxK K) "without" (defArgs (top 14)) ["some", "unit"] 1 den_without := by
  have scN := sc_without
  refine callee (k := 0) (m := 1) (g := f_without) D_without sc_without rfl fun f cdv A outer s H E hr tk po => ?_
  have hu64 := hr.units
  have hu65 : (A.deeper (envOfC "without" (defScope (top 14)) s.heap.objs.size f cdv)).units + 65 < cLine := by have := hr.un; omega
  have hu1 : (A.deeper (envOfC "without" (defScope (top 14)) s.heap.objs.size f cdv)).units + 1 < cLine := by have := hr.un; omega
  exact jss_one (js_ret (jx_callTy (cr_tupleU rfl) rfl B.tuple boot_tuple (jab_cons (JE.b (JX.frz (jx_lc (own := [("one", 2)]) rfl scN.nd (ji_any (JX.frz (jx_var (pv 0)))) (blkOk_by (own := [("one", 2)]) (N := N_without) (by kernel_rfl)) (fun _ _ _ _ _ => jg_name (pg_name (i := 2) scN.nd rfl (by first | exact Or.inl rfl | exact Or.inr rfl)) (by decide)) (fun _ _ _ _ _ => jts_one (jt_cmp (op_neU hu64) (jb_rd (pv 2)) (jb_rd (pv 1)) rfl)) (fun _ _ _ _ _ => JX.frz (jx_var (pv 2))) (fun _ => rfl)))) (jab_nil) rfl) (by decide) (by decide) rfl rfl))
/-! last_ones -/
def N_last_ones : List Str := ["book", "every", "unit"]
theorem sc_last_ones : FnScope N_last_ones ["book"] (defScope (top 16)) := ⟨rfl, rfl, rfl, by decide +kernel, rfl, by decide +kernel, by decide +kernel⟩
def f_last_ones : T → SR :=
  sSeq (sSet 1 (sCall den_whole (sBCons (toB (frz (sVar 0))) (sBNil)))) (sRet (sCB (g1 gTuple) (sBCons (toB (frz (sFzX [0, 1] (sLc (sItems (frz (sVar 1))) (gNm 2) (sTB (sOp2 (gEq false) (toB (frz (sCall den_greatest_within (sBCons (toB (frz (sVar 0))) (sBCons (toB (frz (sCall den_without (sBCons (toB (frz (sVar 1))) (sBCons (toB (frz (sVar 2))) (sBNil)))))) (sBNil)))))) (toB (frz (sCall den_without (sBCons (toB (frz (sVar 1))) (sBCons (toB (frz (sVar 2))) (sBNil)))))))) (frz (sVar 2)) [2])))) (sBNil))))
def den_last_ones : List Sl → DR := run 2 f_last_ones
def c0_last_ones : D → T → Rs (Option D) :=
  turnC (gNm 2) (sTB (sOp2 (gEq false) (toB (frz (sCall den_greatest_within (sBCons (toB (frz (sVar 0))) (sBCons (toB (frz (sCall den_without (sBCons (toB (frz (sVar 1))) (sBCons (toB (frz (sVar 2))) (sBNil)))))) (sBNil)))))) (toB (frz (sCall den_without (sBCons (toB (frz (sVar 1))) (sBCons (toB (frz (sVar 2))) (sBNil)))))))) (frz (sVar 2)) [2]
theorem nE_last_ones : f_last_ones = (sSeq (sSet 1 (sCall den_whole (sBCons (toB (frz (sVar 0))) (sBNil)))) (sRet (sCB (g1 gTuple) (sBCons (toB (frz (sFzX [0, 1] (sLcB (sItems (frz (sVar 1))) c0_last_ones [2])))) (sBNil))))) := rfl
theorem ok_last_ones (B : Blt mg) (B2 : B2s mg) (XK : xAll xcs K = true) (XG : ∀ c ∈ xcs, mg (xName c) = some (.ref (xC K c))) (GC : GCs mg) (XR_0 : XRs P w K mg base 0 "name") (D_last_ones : DefOk K mg "last_ones" (top 16) ["book"]) (C_whole : Callee P w K mg base (pxK K) "whole" (defArgs (top 12)) ["book"] 16 den_whole) (C_greatest_within : Callee P w K mg base (pxK K) "greatest_within" (defArgs (top 11)) ["book", "some"] 15 den_greatest_within) (C_without : Callee P w K mg base (pxK K) "without" (defArgs (top 14)) ["some", "unit"] 1 den_without) : Callee P w K mg base (pxK K) "last_ones" (defArgs (top 16)) ["book"] 17 den_last_ones := by
  have scN := sc_last_ones
  refine callee (k := 16) (m := 2) (g := f_last_ones) D_last_ones sc_last_ones rfl fun f cdv A outer s H E hr tk po => ?_
  have hu64 := hr.units
  have hu65 : (A.deeper (envOfC "last_ones" (defScope (top 16)) s.heap.objs.size f cdv)).units + 65 < cLine := by have := hr.un; omega
  have hu1 : (A.deeper (envOfC "last_ones" (defScope (top 16)) s.heap.objs.size f cdv)).units + 1 < cLine := by have := hr.un; omega
  exact jss_cons (js_asg (ps_set (i := 1) scN.nd rfl (by first | exact Or.inl rfl | exact Or.inr rfl) (jx_own C_whole (hr.mono (by decide)) tk rfl (jab_cons (JE.b (JX.frz (jx_var (pv 0)))) (jab_nil) rfl) (blS bl0) (by decide) rfl rfl) (by first | rfl | exact sw_false_name | decide)) (fun _ _ _ h => h))
      (jss_one (js_ret (jx_callTy (cr_tupleU rfl) rfl B.tuple boot_tuple (jab_cons (JE.b (JX.frz (jx_fz [0, 1] (jx_lc (own := [("unit", 2)]) rfl scN.nd (ji_any (JX.frz (jx_var (pv 1)))) (blkOk_by (own := [("unit", 2)]) (N := N_last_ones) (by kernel_rfl)) (fun _ _ _ _ _ => jg_name (pg_name (i := 2) scN.nd rfl (by first | exact Or.inl rfl | exact Or.inr rfl)) (by decide)) (fun _ _ _ _ _ => jts_one (jt_cmp (op_eqU hu64) (JE.b (JX.frz (jx_own C_greatest_within (hr.mono (by decide)) takes0 rfl (jab_cons (JE.b (JX.frz (jx_var (pv 0)))) (jab_cons (JE.b (JX.frz (jx_own C_without (hr.mono (by decide)) takes0 rfl (jab_cons (JE.b (JX.frz (jx_var (pv 1)))) (jab_cons (JE.b (JX.frz (jx_var (pv 2)))) (jab_nil) rfl) rfl) (blS (blS bl0)) (by decide) rfl rfl))) (jab_nil) rfl) rfl) (blS (blS bl0)) (by decide) rfl rfl))) (JE.b (JX.frz (jx_own C_without (hr.mono (by decide)) takes0 rfl (jab_cons (JE.b (JX.frz (jx_var (pv 1)))) (jab_cons (JE.b (JX.frz (jx_var (pv 2)))) (jab_nil) rfl) rfl) (blS (blS bl0)) (by decide) rfl rfl))) rfl)) (fun _ _ _ _ _ => JX.frz (jx_var (pv 2))) (fun _ => rfl))))) (jab_nil) rfl) (by decide) (by decide) rfl rfl)))
/-! lost_without -/
def N_lost_without : List Str := ["book", "some", "kept", "unit", "needs"]
theorem sc_lost_without : FnScope N_lost_without ["book", "some"] (defScope (top 17)) := ⟨rfl, rfl, rfl, by decide +kernel, rfl, by decide +kernel, by decide +kernel⟩
def f_lost_without : T → SR :=
  sSeq (sDrop (sCall den_check_units (sBCons (toB (frz (sVar 0))) (sBCons (toB (frz (sVar 1))) (sBNil))))) (sSeq (sSet 2 (sCall den_greatest_within (sBCons (toB (frz (sVar 0))) (sBCons (toB (frz (sCB (g1 gTuple) (sBCons (toB (frz (sLc (sItems (frz (sVar 0))) (gTp 2 (gN1 (gNm 3) (gN1 (gNm 4) (gN0)))) (sTB (sOp2 (gIn true) (sRd 3) (sRd 1))) (frz (sVar 3)) [3, 4]))) (sBNil))))) (sBNil))))) (sRet (sCB (g1 gTuple) (sBCons (toB (frz (sLc (sItems (frz (sCall den_whole (sBCons (toB (frz (sVar 0))) (sBNil))))) (gNm 3) (sTB (sOp2 (gIn true) (sRd 3) (sRd 2))) (frz (sVar 3)) [3]))) (sBNil)))))
def den_lost_without : List Sl → DR := run 3 f_lost_without
def c0_lost_without : D → T → Rs (Option D) :=
  turnC (gTp 2 (gN1 (gNm 3) (gN1 (gNm 4) (gN0)))) (sTB (sOp2 (gIn true) (sRd 3) (sRd 1))) (frz (sVar 3)) [3, 4]
def c1_lost_without : D → T → Rs (Option D) :=
  turnC (gNm 3) (sTB (sOp2 (gIn true) (sRd 3) (sRd 2))) (frz (sVar 3)) [3]
theorem nE_lost_without : f_lost_without = (sSeq (sDrop (sCall den_check_units (sBCons (toB (frz (sVar 0))) (sBCons (toB (frz (sVar 1))) (sBNil))))) (sSeq (sSet 2 (sCall den_greatest_within (sBCons (toB (frz (sVar 0))) (sBCons (toB (frz (sCB (g1 gTuple) (sBCons (toB (frz (sLcB (sItems (frz (sVar 0))) c0_lost_without [3, 4]))) (sBNil))))) (sBNil))))) (sRet (sCB (g1 gTuple) (sBCons (toB (frz (sLcB (sItems (frz (sCall den_whole (sBCons (toB (frz (sVar 0))) (sBNil))))) c1_lost_without [3]))) (sBNil)))))) := rfl
theorem ok_lost_without (B : Blt mg) (B2 : B2s mg) (XK : xAll xcs K = true) (XG : ∀ c ∈ xcs, mg (xName c) = some (.ref (xC K c))) (GC : GCs mg) (XR_0 : XRs P w K mg base 0 "name") (D_lost_without : DefOk K mg "lost_without" (top 17) ["book", "some"]) (C_check_units : Callee P w K mg base (pxK K) "check_units" (defArgs (top 7)) ["book", "some"] 3 den_check_units) (C_greatest_within : Callee P w K mg base (pxK K) "greatest_within" (defArgs (top 11)) ["book", "some"] 15 den_greatest_within) (C_whole : Callee P w K mg base (pxK K) "whole" (defArgs (top 12)) ["book"] 16 den_whole) : Callee P w K mg base (pxK K) "lost_without" (defArgs (top 17)) ["book", "some"] 17 den_lost_without := by
  have scN := sc_lost_without
  refine callee (k := 16) (m := 3) (g := f_lost_without) D_lost_without sc_lost_without rfl fun f cdv A outer s H E hr tk po => ?_
  have hu64 := hr.units
  have hu65 : (A.deeper (envOfC "lost_without" (defScope (top 17)) s.heap.objs.size f cdv)).units + 65 < cLine := by have := hr.un; omega
  have hu1 : (A.deeper (envOfC "lost_without" (defScope (top 17)) s.heap.objs.size f cdv)).units + 1 < cLine := by have := hr.un; omega
  exact jss_cons (js_expr (jx_own C_check_units (hr.mono (by decide)) tk rfl (jab_cons (JE.b (JX.frz (jx_var (pv 0)))) (jab_cons (JE.b (JX.frz (jx_var (pv 1)))) (jab_nil) rfl) rfl) (blS (blS bl0)) (by decide) rfl rfl) rfl)
      (jss_cons (js_asg (ps_set (i := 2) scN.nd rfl (by first | exact Or.inl rfl | exact Or.inr rfl) (jx_own C_greatest_within (hr.mono (by decide)) tk rfl (jab_cons (JE.b (JX.frz (jx_var (pv 0)))) (jab_cons (JE.b (JX.frz (jx_callTy (cr_tupleU rfl) rfl B.tuple boot_tuple (jab_cons (JE.b (JX.frz (jx_lc (own := [("unit", 3), ("needs", 4)]) rfl scN.nd (ji_any (JX.frz (jx_var (pv 0)))) (blkOk_by (own := [("unit", 3), ("needs", 4)]) (N := N_lost_without) (by kernel_rfl)) (fun _ _ _ _ _ => jg_tup rfl (jgs_cons (jg_name (pg_name (i := 3) scN.nd rfl (by first | exact Or.inl rfl | exact Or.inr rfl)) (by decide)) (jgs_cons (jg_name (pg_name (i := 4) scN.nd rfl (by first | exact Or.inl rfl | exact Or.inr rfl)) (by decide)) (jgs_nil) rfl) rfl) rfl rfl) (fun _ _ _ _ _ => jts_one (jt_cmp (op_notInU hu65) (jb_rd (pv 3)) (jb_rd (pv 1)) rfl)) (fun _ _ _ _ _ => JX.frz (jx_var (pv 3))) (fun _ => rfl)))) (jab_nil) rfl) (by decide) (by decide) rfl rfl))) (jab_nil) rfl) rfl) (blS (blS bl0)) (by decide) rfl rfl) (by first | rfl | exact sw_false_name | decide)) (fun _ _ _ h => h))
      (jss_one (js_ret (jx_callTy (cr_tupleU rfl) rfl B.tuple boot_tuple (jab_cons (JE.b (JX.frz (jx_lc (own := [("unit", 3)]) rfl scN.nd (ji_any (JX.frz (jx_own C_whole (hr.mono (by decide)) tk rfl (jab_cons (JE.b (JX.frz (jx_var (pv 0)))) (jab_nil) rfl) (blS bl0) (by decide) rfl rfl))) (blkOk_by (own := [("unit", 3)]) (N := N_lost_without) (by kernel_rfl)) (fun _ _ _ _ _ => jg_name (pg_name (i := 3) scN.nd rfl (by first | exact Or.inl rfl | exact Or.inr rfl)) (by decide)) (fun _ _ _ _ _ => jts_one (jt_cmp (op_notInU hu65) (jb_rd (pv 3)) (jb_rd (pv 2)) rfl)) (fun _ _ _ _ _ => JX.frz (jx_var (pv 3))) (fun _ => rfl)))) (jab_nil) rfl) (by decide) (by decide) rfl rfl))))
/-! _law_box -/
def N__law_box : List Str := ["_law_script", "_law_k", "_law_cell"]
theorem sc__law_box : FnScope N__law_box ["_law_script", "_law_k"] (defScope (top 19)) := ⟨rfl, rfl, rfl, by decide +kernel, rfl, by decide +kernel, by decide +kernel⟩
def f__law_box : T → SR :=
  sSeq (sSet 2 (sIte (sTB (sOp2 (gCmp .lt) (sRd 1) (toB (frz (sCB (g1 gLen) (sBCons (sRd 0) (sBNil))))))) (sOp2 gIx (sRd 0) (sRd 1)) (sC (.int 0)))) (sRet (sLst (sCons (frz (sOp2 gMul (toB (frz (sCB (g1 gAbs) (sBCons (sRd 2) (sBNil))))) (toB (frz (sCB (g1 gIntC) (sBCons (toB (frz (sOp2 (gCmp .ge) (toB (frz (sCB (g1 gAbs) (sBCons (sRd 2) (sBNil))))) (toB (frz (sOp2 (gInt cPow fun i j => i ^ j.toNat) (toB (frz (sC (.int 10)))) (toB (frz (sC (.int 18)))))))))) (sBNil))))))) (sCons (frz (sOp2 gAdd (toB (frz (sOp2 gAdd (toB (frz (sOp2 (gInt (fun _ j => decide (0 < j)) fun i j => i % j) (toB (frz (sCB (g1 gIntC) (sBCons (sRd 2) (sBNil))))) (toB (frz (sC (.int 2305843009213693951))))))) (toB (frz (sOp2 gMul (toB (frz (sC (.int 39373)))) (sRd 1))))))) (toB (frz (sC (.int 1052136)))))) (sCons (frz (sC (.int 0))) (sNil))))))
def den__law_box : List Sl → DR := run 1 f__law_box
theorem ok__law_box (B : Blt mg) (B2 : B2s mg) (XK : xAll xcs K = true) (XG : ∀ c ∈ xcs, mg (xName c) = some (.ref (xC K c))) (GC : GCs mg) (XR_0 : XRs P w K mg base 0 "name") (D__law_box : DefOk K mg "_law_box" (top 19) ["_law_script", "_law_k"])  : Callee P w K mg base (pxK K) "_law_box" (defArgs (top 19)) ["_law_script", "_law_k"] 1 den__law_box := by
  have scN := sc__law_box
  refine callee (k := 0) (m := 1) (g := f__law_box) D__law_box sc__law_box rfl fun f cdv A outer s H E hr tk po => ?_
  have hu64 := hr.units
  have hu65 : (A.deeper (envOfC "_law_box" (defScope (top 19)) s.heap.objs.size f cdv)).units + 65 < cLine := by have := hr.un; omega
  have hu1 : (A.deeper (envOfC "_law_box" (defScope (top 19)) s.heap.objs.size f cdv)).units + 1 < cLine := by have := hr.un; omega
  exact jss_cons (js_asg (ps_set (i := 2) scN.nd rfl (by first | exact Or.inl rfl | exact Or.inr rfl) (jx_ife (jt_cmp (op_cmpU .lt hu64) (jb_rd (pv 1)) (JE.b (JX.frz (jx_callB cr_lenU rfl B.len boot_len (jab_cons (jb_rd (pv 0)) (jab_nil) rfl) (by decide) (by decide) rfl rfl))) rfl) (jx_ix (ix_U hu1) (jb_rd (pv 0)) (jb_rd (pv 1)) (fun _ _ => rfl)) (jx_int)) (by first | rfl | exact sw_false_name | decide)) (fun _ _ _ h => h))
      (jss_one (js_ret (jx_lst (ja_cons (JX.frz (jx_bin op_mulU (JE.b (JX.frz (jx_callB cr_absU rfl B.abs boot_abs (jab_cons (jb_rd (pv 2)) (jab_nil) rfl) (by decide) (by decide) rfl rfl))) (JE.b (JX.frz (jx_callTy cr_intU rfl B.int boot_int (jab_cons (JE.b (JX.frz (jx_cmp (op_cmpU .ge hu64) (JE.b (JX.frz (jx_callB cr_absU rfl B.abs boot_abs (jab_cons (jb_rd (pv 2)) (jab_nil) rfl) (by decide) (by decide) rfl rfl))) (JE.b (JX.frz (jx_bin op_powD (JE.b (JX.frz (jx_int))) (JE.b (JX.frz (jx_int)))))) rfl))) (jab_nil) rfl) (by decide) (by decide) rfl rfl))))) (ja_cons (JX.frz (jx_bin op_addU (JE.b (JX.frz (jx_bin op_addU (JE.b (JX.frz (jx_bin op_modD (JE.b (JX.frz (jx_callTy cr_intU rfl B.int boot_int (jab_cons (jb_rd (pv 2)) (jab_nil) rfl) (by decide) (by decide) rfl rfl))) (JE.b (JX.frz (jx_int)))))) (JE.b (JX.frz (jx_bin op_mulU (JE.b (JX.frz (jx_int))) (jb_rd (pv 1)))))))) (JE.b (JX.frz (jx_int))))) (ja_cons (JX.frz (jx_int)) (ja_nil) rfl) rfl) rfl))))
/-! _law_cells -/
def N__law_cells : List Str := ["_law_script", "_law_top", "_law_cells_so", "_law_k", "_law_cell", "_law_at_so"]
theorem sc__law_cells : FnScope N__law_cells ["_law_script", "_law_top"] (defScope (top 20)) := ⟨rfl, rfl, rfl, by decide +kernel, rfl, by decide +kernel, by decide +kernel⟩
def f__law_cells : T → SR :=
  sSeq (sSet 2 (sOrV (sCB (g1 gList) (sBCons (toB (frz (sSl (sRd 0) (sNoP) (sSmP (frz (sVar 1)))))) (sBNil))) (sLst (sCons (frz (sC (.int 0))) (sNil))))) (sSeq (sFor (sEnum (sCons (frz (sSl (sRd 0) (sSmP (frz (sVar 1))) (sSmP (frz (sC (.int 63)))))) (sNil))) (gTp 2 (gN1 (gNm 3) (gN1 (gNm 4) (gN0)))) (sSeq (sSet 5 (sOp2 (gInt (fun _ j => decide (0 < j)) fun i j => i % j) (toB (frz (sCB (g1 gIntC) (sBCons (sRd 3) (sBNil))))) (sRd 1))) (sStore 2 (frz (sOp2 gAdd (toB (frz (sOp2 gIx (sRd 2) (sRd 5)))) (toB (frz (sOp2 gMul (sRd 4) (toB (frz (sOp2 gAdd (sRd 3) (toB (frz (sC (.int 2)))))))))))) (frz (sVar 5))))) (sRetV 2))
def den__law_cells : List Sl → DR := run 4 f__law_cells
def b0__law_cells : D → T → SR :=
  sBody (gTp 2 (gN1 (gNm 3) (gN1 (gNm 4) (gN0)))) (sSeq (sSet 5 (sOp2 (gInt (fun _ j => decide (0 < j)) fun i j => i % j) (toB (frz (sCB (g1 gIntC) (sBCons (sRd 3) (sBNil))))) (sRd 1))) (sStore 2 (frz (sOp2 gAdd (toB (frz (sOp2 gIx (sRd 2) (sRd 5)))) (toB (frz (sOp2 gMul (sRd 4) (toB (frz (sOp2 gAdd (sRd 3) (toB (frz (sC (.int 2)))))))))))) (frz (sVar 5))))
theorem nE__law_cells : f__law_cells = (sSeq (sSet 2 (sOrV (sCB (g1 gList) (sBCons (toB (frz (sSl (sRd 0) (sNoP) (sSmP (frz (sVar 1)))))) (sBNil))) (sLst (sCons (frz (sC (.int 0))) (sNil))))) (sSeq (sForB (sEnum (sCons (frz (sSl (sRd 0) (sSmP (frz (sVar 1))) (sSmP (frz (sC (.int 63)))))) (sNil))) b0__law_cells) (sRetV 2))) := rfl
theorem ok__law_cells (B : Blt mg) (B2 : B2s mg) (XK : xAll xcs K = true) (XG : ∀ c ∈ xcs, mg (xName c) = some (.ref (xC K c))) (GC : GCs mg) (XR_0 : XRs P w K mg base 0 "name") (D__law_cells : DefOk K mg "_law_cells" (top 20) ["_law_script", "_law_top"])  : Callee P w K mg base (pxK K) "_law_cells" (defArgs (top 20)) ["_law_script", "_law_top"] 1 den__law_cells := by
  have scN := sc__law_cells
  refine callee (k := 0) (m := 4) (g := f__law_cells) D__law_cells sc__law_cells rfl fun f cdv A outer s H E hr tk po => ?_
  have hu64 := hr.units
  have hu65 : (A.deeper (envOfC "_law_cells" (defScope (top 20)) s.heap.objs.size f cdv)).units + 65 < cLine := by have := hr.un; omega
  have hu1 : (A.deeper (envOfC "_law_cells" (defScope (top 20)) s.heap.objs.size f cdv)).units + 1 < cLine := by have := hr.un; omega
  exact jss_cons (js_asg (ps_set (i := 2) scN.nd rfl (by first | exact Or.inl rfl | exact Or.inr rfl) (jx_or (jx_callTy cr_listU rfl B.list boot_list (jab_cons (JE.b (JX.frz (jx_sl (jb_rd (pv 0)) (jo_none) (jo_some (JX.frz (jx_var (pv 1))))))) (jab_nil) rfl) (by decide) (by decide) rfl rfl) (jx_one (jx_lst (ja_cons (JX.frz (jx_int)) (ja_nil) rfl)))) (by first | rfl | exact sw_false_name | decide)) (fun _ _ _ h => h))
      (jss_cons (js_for (gs := [3, 4]) po rfl (ji_enum rfl B.enumerate (ja_cons (JX.frz (jx_sl (jb_rd (pv 0)) (jo_some (JX.frz (jx_var (pv 1)))) (jo_some (JX.frz (jx_int))))) (ja_nil) rfl) rfl) (jg_tup rfl (jgs_cons (jg_name (pg_name (i := 3) scN.nd rfl (by first | exact Or.inl rfl | exact Or.inr rfl)) (by decide)) (jgs_cons (jg_name (pg_name (i := 4) scN.nd rfl (by first | exact Or.inl rfl | exact Or.inr rfl)) (by decide)) (jgs_nil) rfl) rfl) rfl rfl) (jss_cons (js_asg (ps_set (i := 5) scN.nd rfl (by first | exact Or.inl rfl | exact Or.inr rfl) (jx_bin op_modD (JE.b (JX.frz (jx_callTy cr_intU rfl B.int boot_int (jab_cons (jb_rd (pv 3)) (jab_nil) rfl) (by decide) (by decide) rfl rfl))) (jb_rd (pv 1))) (by first | rfl | exact sw_false_name | decide)) (fun _ _ _ h => h))
      (jss_one (js_store (pv 2) (JX.frz (jx_var (pv 5))) (JX.frz (jx_bin op_addU (JE.b (JX.frz (jx_ix (ix_U hu1) (jb_rd (pv 2)) (jb_rd (pv 5)) (fun _ _ => rfl)))) (JE.b (JX.frz (jx_bin op_mulU (jb_rd (pv 4)) (JE.b (JX.frz (jx_bin op_addU (jb_rd (pv 3)) (JE.b (JX.frz (jx_int))))))))))) (fun _ => rfl) rfl rfl rfl))) (fun _ => rfl))
      (jss_one (js_retV (pv 2))))
/-! _law_take -/
def N__law_take : List Str := ["_law_urn", "_law_low_so", "_law_drawn", "_law_once", "_law_far", "_law_both_so"]
theorem sc__law_take : FnScope N__law_take ["_law_urn", "_law_low_so"] (defScope (top 22)) := ⟨rfl, rfl, rfl, by decide +kernel, rfl, by decide +kernel, by decide +kernel⟩
def f__law_take : T → SR :=
  sSeq (sIfS (sTB (sOp2 (gCmp .gt) (toB (frz (sOp2 gIx (sRd 0) (toB (frz (sC (.int 0))))))) (toB (frz (sC (.int 0)))))) (sSeq (sSet 2 (sOp2 (gInt (fun _ j => decide (0 < j)) fun i j => i % j) (toB (frz (sCB (g1 gIntC) (sBCons (toB (frz (sOp2 gIx (sRd 0) (toB (frz (sC (.int 0))))))) (sBNil))))) (sRd 1))) (sSeq (sStore 0 (frz (sOp2 (gInt cDiv fun i j => i / j) (toB (frz (sOp2 gIx (sRd 0) (toB (frz (sC (.int 0))))))) (sRd 1))) (frz (sC (.int 0)))) (sRetV 2))) (sNext)) (sSeq (sStore 0 (frz (sOp2 gAdd (toB (frz (sOp2 gIx (sRd 0) (toB (frz (sC (.int 2))))))) (toB (frz (sC (.int 1)))))) (frz (sC (.int 2)))) (sSeq (sSet 3 (sOp2 (gInt (fun _ j => decide (0 < j)) fun i j => i % j) (toB (frz (sCB (g1 gIntC) (sBCons (toB (frz (sOp2 gMul (toB (frz (sOp2 gAdd (toB (frz (sOp2 gIx (sRd 0) (toB (frz (sC (.int 1))))))) (toB (frz (sOp2 gMul (toB (frz (sC (.int 48271)))) (toB (frz (sOp2 gIx (sRd 0) (toB (frz (sC (.int 2))))))))))))) (toB (frz (sOp2 gAdd (toB (frz (sC (.int 39373)))) (toB (frz (sOp2 gIx (sRd 0) (toB (frz (sC (.int 2))))))))))))) (sBNil))))) (toB (frz (sC (.int 2147483647)))))) (sSeq (sSet 4 (sOp2 gAdd (toB (frz (sOp2 (gInt (fun _ j => decide (0 < j)) fun i j => i % j) (toB (frz (sCB (g1 gIntC) (sBCons (sRd 3) (sBNil))))) (toB (frz (sC (.int 40009))))))) (toB (frz (sC (.int 7)))))) (sSeq (sSet 5 (sOp2 (gInt (fun _ j => decide (0 < j)) fun i j => i % j) (toB (frz (sCB (g1 gIntC) (sBCons (toB (frz (sOp2 gMul (toB (frz (sOp2 gAdd (toB (frz (sOp2 gAdd (sRd 3) (toB (frz (sOp2 gIx (sRd 0) (toB (frz (sC (.int 2)))))))))) (toB (frz (sOp2 (gInt cDiv fun i j => i / j) (toB (frz (sOp2 gIx (sRd 0) (toB (frz (sC (.int 1))))))) (toB (frz (sC (.int 1000003)))))))))) (sRd 4)))) (sBNil))))) (toB (frz (sC (.int 2147483629)))))) (sRet (sOp2 (gInt (fun _ j => decide (0 < j)) fun i j => i % j) (toB (frz (sCB (g1 gIntC) (sBCons (toB (frz (sOp2 (gInt cDiv fun i j => i / j) (toB (frz (sOp2 (gInt (fun _ j => decide (0 < j)) fun i j => i % j) (toB (frz (sCB (g1 gIntC) (sBCons (toB (frz (sOp2 gAdd (toB (frz (sOp2 gMul (sRd 5) (toB (frz (sC (.int 48271))))))) (sRd 3)))) (sBNil))))) (toB (frz (sC (.int 2147483587))))))) (toB (frz (sC (.int 64))))))) (sBNil))))) (sRd 1)))))))
def den__law_take : List Sl → DR := run 4 f__law_take
theorem ok__law_take (B : Blt mg) (B2 : B2s mg) (XK : xAll xcs K = true) (XG : ∀ c ∈ xcs, mg (xName c) = some (.ref (xC K c))) (GC : GCs mg) (XR_0 : XRs P w K mg base 0 "name") (D__law_take : DefOk K mg "_law_take" (top 22) ["_law_urn", "_law_low_so"])  : Callee P w K mg base (pxK K) "_law_take" (defArgs (top 22)) ["_law_urn", "_law_low_so"] 1 den__law_take := by
  have scN := sc__law_take
  refine callee (k := 0) (m := 4) (g := f__law_take) D__law_take sc__law_take rfl fun f cdv A outer s H E hr tk po => ?_
  have hu64 := hr.units
  have hu65 : (A.deeper (envOfC "_law_take" (defScope (top 22)) s.heap.objs.size f cdv)).units + 65 < cLine := by have := hr.un; omega
  have hu1 : (A.deeper (envOfC "_law_take" (defScope (top 22)) s.heap.objs.size f cdv)).units + 1 < cLine := by have := hr.un; omega
  exact jss_cons (js_if (jt_cmp (op_cmpU .gt hu64) (JE.b (JX.frz (jx_ix (ix_U hu1) (jb_rd (pv 0)) (JE.b (JX.frz (jx_int))) (fun _ _ => rfl)))) (JE.b (JX.frz (jx_int))) rfl) (jss_cons (js_asg (ps_set (i := 2) scN.nd rfl (by first | exact Or.inl rfl | exact Or.inr rfl) (jx_bin op_modD (JE.b (JX.frz (jx_callTy cr_intU rfl B.int boot_int (jab_cons (JE.b (JX.frz (jx_ix (ix_U hu1) (jb_rd (pv 0)) (JE.b (JX.frz (jx_int))) (fun _ _ => rfl)))) (jab_nil) rfl) (by decide) (by decide) rfl rfl))) (jb_rd (pv 1))) (by first | rfl | exact sw_false_name | decide)) (fun _ _ _ h => h))
      (jss_cons (js_store (pv 0) (JX.frz (jx_int)) (JX.frz (jx_bin op_divD (JE.b (JX.frz (jx_ix (ix_U hu1) (jb_rd (pv 0)) (JE.b (JX.frz (jx_int))) (fun _ _ => rfl)))) (jb_rd (pv 1)))) (fun _ => rfl) rfl rfl rfl)
      (jss_one (js_retV (pv 2))))) (jss_nil))
      (jss_cons (js_store (pv 0) (JX.frz (jx_int)) (JX.frz (jx_bin op_addU (JE.b (JX.frz (jx_ix (ix_U hu1) (jb_rd (pv 0)) (JE.b (JX.frz (jx_int))) (fun _ _ => rfl)))) (JE.b (JX.frz (jx_int))))) (fun _ => rfl) rfl rfl rfl)
      (jss_cons (js_asg (ps_set (i := 3) scN.nd rfl (by first | exact Or.inl rfl | exact Or.inr rfl) (jx_bin op_modD (JE.b (JX.frz (jx_callTy cr_intU rfl B.int boot_int (jab_cons (JE.b (JX.frz (jx_bin op_mulU (JE.b (JX.frz (jx_bin op_addU (JE.b (JX.frz (jx_ix (ix_U hu1) (jb_rd (pv 0)) (JE.b (JX.frz (jx_int))) (fun _ _ => rfl)))) (JE.b (JX.frz (jx_bin op_mulU (JE.b (JX.frz (jx_int))) (JE.b (JX.frz (jx_ix (ix_U hu1) (jb_rd (pv 0)) (JE.b (JX.frz (jx_int))) (fun _ _ => rfl)))))))))) (JE.b (JX.frz (jx_bin op_addU (JE.b (JX.frz (jx_int))) (JE.b (JX.frz (jx_ix (ix_U hu1) (jb_rd (pv 0)) (JE.b (JX.frz (jx_int))) (fun _ _ => rfl)))))))))) (jab_nil) rfl) (by decide) (by decide) rfl rfl))) (JE.b (JX.frz (jx_int)))) (by first | rfl | exact sw_false_name | decide)) (fun _ _ _ h => h))
      (jss_cons (js_asg (ps_set (i := 4) scN.nd rfl (by first | exact Or.inl rfl | exact Or.inr rfl) (jx_bin op_addU (JE.b (JX.frz (jx_bin op_modD (JE.b (JX.frz (jx_callTy cr_intU rfl B.int boot_int (jab_cons (jb_rd (pv 3)) (jab_nil) rfl) (by decide) (by decide) rfl rfl))) (JE.b (JX.frz (jx_int)))))) (JE.b (JX.frz (jx_int)))) (by first | rfl | exact sw_false_name | decide)) (fun _ _ _ h => h))
      (jss_cons (js_asg (ps_set (i := 5) scN.nd rfl (by first | exact Or.inl rfl | exact Or.inr rfl) (jx_bin op_modD (JE.b (JX.frz (jx_callTy cr_intU rfl B.int boot_int (jab_cons (JE.b (JX.frz (jx_bin op_mulU (JE.b (JX.frz (jx_bin op_addU (JE.b (JX.frz (jx_bin op_addU (jb_rd (pv 3)) (JE.b (JX.frz (jx_ix (ix_U hu1) (jb_rd (pv 0)) (JE.b (JX.frz (jx_int))) (fun _ _ => rfl))))))) (JE.b (JX.frz (jx_bin op_divD (JE.b (JX.frz (jx_ix (ix_U hu1) (jb_rd (pv 0)) (JE.b (JX.frz (jx_int))) (fun _ _ => rfl)))) (JE.b (JX.frz (jx_int))))))))) (jb_rd (pv 4))))) (jab_nil) rfl) (by decide) (by decide) rfl rfl))) (JE.b (JX.frz (jx_int)))) (by first | rfl | exact sw_false_name | decide)) (fun _ _ _ h => h))
      (jss_one (js_ret (jx_bin op_modD (JE.b (JX.frz (jx_callTy cr_intU rfl B.int boot_int (jab_cons (JE.b (JX.frz (jx_bin op_divD (JE.b (JX.frz (jx_bin op_modD (JE.b (JX.frz (jx_callTy cr_intU rfl B.int boot_int (jab_cons (JE.b (JX.frz (jx_bin op_addU (JE.b (JX.frz (jx_bin op_mulU (jb_rd (pv 5)) (JE.b (JX.frz (jx_int)))))) (jb_rd (pv 3))))) (jab_nil) rfl) (by decide) (by decide) rfl rfl))) (JE.b (JX.frz (jx_int)))))) (JE.b (JX.frz (jx_int)))))) (jab_nil) rfl) (by decide) (by decide) rfl rfl))) (jb_rd (pv 1)))))))))
/-! _law_mixed -/
def N__law_mixed : List Str := ["_law_urn", "_law_pool", "_law_left", "_law_found", "_law_turn"]
theorem sc__law_mixed : FnScope N__law_mixed ["_law_urn", "_law_pool"] (defScope (top 21)) := ⟨rfl, rfl, rfl, by decide +kernel, rfl, by decide +kernel, by decide +kernel⟩
def f__law_mixed : T → SR :=
  sSeq (sPar [2, 3] (sXCons (sCB (g1 gList) (sBCons (sRd 1) (sBNil))) (sXCons (sLst (sNil)) (sXNil)))) (sSeq (sFor (sRng1 (sCons (frz (sCB (g1 gLen) (sBCons (sRd 1) (sBNil)))) (sNil))) (gNm 4) (sDrop (sMeth 3 mAppend (sCons (frz (sMeth 2 mPopAt (sCons (frz (sCall den__law_take (sBCons (sRd 0) (sBCons (toB (frz (sCB (g1 gLen) (sBCons (sRd 2) (sBNil))))) (sBNil))))) (sNil)))) (sNil))))) (sRet (sCB (g1 gTuple) (sBCons (sRd 3) (sBNil)))))
def den__law_mixed : List Sl → DR := run 3 f__law_mixed
def b0__law_mixed : D → T → SR :=
  sBody (gNm 4) (sDrop (sMeth 3 mAppend (sCons (frz (sMeth 2 mPopAt (sCons (frz (sCall den__law_take (sBCons (sRd 0) (sBCons (toB (frz (sCB (g1 gLen) (sBCons (sRd 2) (sBNil))))) (sBNil))))) (sNil)))) (sNil))))
theorem nE__law_mixed : f__law_mixed = (sSeq (sPar [2, 3] (sXCons (sCB (g1 gList) (sBCons (sRd 1) (sBNil))) (sXCons (sLst (sNil)) (sXNil)))) (sSeq (sForB (sRng1 (sCons (frz (sCB (g1 gLen) (sBCons (sRd 1) (sBNil)))) (sNil))) b0__law_mixed) (sRet (sCB (g1 gTuple) (sBCons (sRd 3) (sBNil)))))) := rfl
theorem ok__law_mixed (B : Blt mg) (B2 : B2s mg) (XK : xAll xcs K = true) (XG : ∀ c ∈ xcs, mg (xName c) = some (.ref (xC K c))) (GC : GCs mg) (XR_0 : XRs P w K mg base 0 "name") (D__law_mixed : DefOk K mg "_law_mixed" (top 21) ["_law_urn", "_law_pool"]) (C__law_take : Callee P w K mg base (pxK K) "_law_take" (defArgs (top 22)) ["_law_urn", "_law_low_so"] 1 den__law_take) : Callee P w K mg base (pxK K) "_law_mixed" (defArgs (top 21)) ["_law_urn", "_law_pool"] 2 den__law_mixed := by
  have scN := sc__law_mixed
  refine callee (k := 1) (m := 3) (g := f__law_mixed) D__law_mixed sc__law_mixed rfl fun f cdv A outer s H E hr tk po => ?_
  have hu64 := hr.units
  have hu65 : (A.deeper (envOfC "_law_mixed" (defScope (top 21)) s.heap.objs.size f cdv)).units + 65 < cLine := by have := hr.un; omega
  have hu1 : (A.deeper (envOfC "_law_mixed" (defScope (top 21)) s.heap.objs.size f cdv)).units + 1 < cLine := by have := hr.un; omega
  exact jss_cons (js_par (is := [2, 3]) (xs := ["_law_left", "_law_found"]) rfl scN.nd rfl (by kernel_rfl) (by decide) (jax_cons (jx_callTy cr_listU rfl B.list boot_list (jab_cons (jb_rd (pv 1)) (jab_nil) rfl) (by decide) (by decide) rfl rfl) (jax_cons (jx_lst (ja_nil)) (jax_nil) rfl) rfl) rfl rfl)
      (jss_cons (js_for (gs := [4]) po rfl (ji_range1 rfl B.range (ja_cons (JX.frz (jx_callB cr_lenU rfl B.len boot_len (jab_cons (jb_rd (pv 1)) (jab_nil) rfl) (by decide) (by decide) rfl rfl)) (ja_nil) rfl) rfl) (jg_name (pg_name (i := 4) scN.nd rfl (by first | exact Or.inl rfl | exact Or.inr rfl)) (by decide)) (jss_one (js_expr (jx_meth PySem.F.slot_list_append PySem.F.type_list_append mo_append (pv 3) (ja_cons (JX.frz (jx_meth PySem.F.slot_list_pop PySem.F.type_list_pop mo_popAt (pv 2) (ja_cons (JX.frz (jx_own C__law_take (hr.mono (by decide)) tk rfl (jab_cons (jb_rd (pv 0)) (jab_cons (JE.b (JX.frz (jx_callB cr_lenU rfl B.len boot_len (jab_cons (jb_rd (pv 2)) (jab_nil) rfl) (by decide) (by decide) rfl rfl))) (jab_nil) rfl) rfl) (blS (blS bl0)) (by decide) rfl rfl)) (ja_nil) rfl) rfl rfl rfl rfl rfl)) (ja_nil) rfl) rfl rfl rfl rfl rfl) rfl)) (fun _ => rfl))
      (jss_one (js_ret (jx_callTy (cr_tupleU rfl) rfl B.tuple boot_tuple (jab_cons (jb_rd (pv 3)) (jab_nil) rfl) (by decide) (by decide) rfl rfl))))
/-! _law_same -/
def N__law_same : List Str := ["_law_got", "_law_goal", "_law_mine_so", "_law_own"]
theorem sc__law_same : FnScope N__law_same ["_law_got", "_law_goal"] (defScope (top 23)) := ⟨rfl, rfl, rfl, by decide +kernel, rfl, by decide +kernel, by decide +kernel⟩
def f__law_same (dself : List Sl → DR) : T → SR :=
  sSeq (sIfS (sTru (toB (frz (sIsi ["list", "tuple"] (sRd 1))))) (sSeq (sIfS (sOr (sTB (sOp2 (gEq true) (toB (frz (sIsi ["list"] (sRd 0)))) (toB (frz (sIsi ["list"] (sRd 1)))))) (sTB (sOp2 (gEq true) (toB (frz (sIsi ["tuple"] (sRd 0)))) (toB (frz (sIsi ["tuple"] (sRd 1))))))) (sRet (sC (.bl false))) (sNext)) (sRet (sAndV (sOp2 (gEq false) (toB (frz (sCB (g1 gLen) (sBCons (sRd 0) (sBNil))))) (toB (frz (sCB (g1 gLen) (sBCons (sRd 1) (sBNil)))))) (sCB (g1 gAll) (sBCons (toB (frz (sLc (sZip (sCons (frz (sVar 0)) (sCons (frz (sVar 1)) (sNil)))) (gTp 2 (gN1 (gNm 2) (gN1 (gNm 3) (gN0)))) (fun τ => .ok true τ) (frz (sCall dself (sBCons (toB (frz (sVar 2))) (sBCons (toB (frz (sVar 3))) (sBNil))))) [2, 3]))) (sBNil)))))) (sNext)) (sSeq (sIfS (sTB (sOp2 (gIs false) (sRd 1) (toB (frz (sC .non))))) (sRet (sOp2 (gIs false) (sRd 0) (toB (frz (sC .non))))) (sNext)) (sSeq (sIfS (sTru (toB (frz (sIsi ["bool", "str"] (sRd 1))))) (sRet (sAndV (sOp2 (gEq false) (sRd 0) (sRd 1)) (sOp2 (gEq false) (toB (frz (sIsi ["bool"] (sRd 0)))) (toB (frz (sIsi ["bool"] (sRd 1))))))) (sNext)) (sRet (sAndV (sIsi ["int"] (sRd 0)) (sAndV (sNotV (sIsi ["bool"] (sRd 0))) (sOp2 (gEq false) (sRd 0) (sRd 1)))))))
def den__law_same : Nat → List Sl → DR
  | 0 => fun _ => .stuck
  | n + 1 => run 2 (f__law_same (den__law_same n))
def c0__law_same (dself : List Sl → DR) : D → T → Rs (Option D) :=
  turnC (gTp 2 (gN1 (gNm 2) (gN1 (gNm 3) (gN0)))) (fun τ => .ok true τ) (frz (sCall dself (sBCons (toB (frz (sVar 2))) (sBCons (toB (frz (sVar 3))) (sBNil))))) [2, 3]
theorem nE__law_same (dself : List Sl → DR) : f__law_same dself = (sSeq (sIfS (sTru (toB (frz (sIsi ["list", "tuple"] (sRd 1))))) (sSeq (sIfS (sOr (sTB (sOp2 (gEq true) (toB (frz (sIsi ["list"] (sRd 0)))) (toB (frz (sIsi ["list"] (sRd 1)))))) (sTB (sOp2 (gEq true) (toB (frz (sIsi ["tuple"] (sRd 0)))) (toB (frz (sIsi ["tuple"] (sRd 1))))))) (sRet (sC (.bl false))) (sNext)) (sRet (sAndV (sOp2 (gEq false) (toB (frz (sCB (g1 gLen) (sBCons (sRd 0) (sBNil))))) (toB (frz (sCB (g1 gLen) (sBCons (sRd 1) (sBNil)))))) (sCB (g1 gAll) (sBCons (toB (frz (sLcB (sZip (sCons (frz (sVar 0)) (sCons (frz (sVar 1)) (sNil)))) (c0__law_same dself) [2, 3]))) (sBNil)))))) (sNext)) (sSeq (sIfS (sTB (sOp2 (gIs false) (sRd 1) (toB (frz (sC .non))))) (sRet (sOp2 (gIs false) (sRd 0) (toB (frz (sC .non))))) (sNext)) (sSeq (sIfS (sTru (toB (frz (sIsi ["bool", "str"] (sRd 1))))) (sRet (sAndV (sOp2 (gEq false) (sRd 0) (sRd 1)) (sOp2 (gEq false) (toB (frz (sIsi ["bool"] (sRd 0)))) (toB (frz (sIsi ["bool"] (sRd 1))))))) (sNext)) (sRet (sAndV (sIsi ["int"] (sRd 0)) (sAndV (sNotV (sIsi ["bool"] (sRd 0))) (sOp2 (gEq false) (sRd 0) (sRd 1)))))))) := rfl
theorem ok__law_same (B : Blt mg) (B2 : B2s mg) (XK : xAll xcs K = true) (XG : ∀ c ∈ xcs, mg (xName c) = some (.ref (xC K c))) (GC : GCs mg) (XR_0 : XRs P w K mg base 0 "name") (D__law_same : DefOk K mg "_law_same" (top 23) ["_law_got", "_law_goal"])  : ∀ n : Nat, Callee P w K mg base (pxK K) "_law_same" (defArgs (top 23)) ["_law_got", "_law_goal"] (n + 0) (den__law_same n)
  | 0 => callee0 D__law_same
  | n + 1 => by
    have cself := ok__law_same B B2 XK XG GC XR_0 D__law_same  n
    have e1 : n + 1 + 0 = (n + 0) + 1 := by omega
    rw [e1]
    have scN := sc__law_same
    refine callee (k := n + 0) (m := 2) (g := f__law_same (den__law_same n)) D__law_same sc__law_same rfl fun f cdv A outer s H E hr tk po => ?_
    have hu64 := hr.units
    have hu65 : (A.deeper (envOfC "_law_same" (defScope (top 23)) s.heap.objs.size f cdv)).units + 65 < cLine := by have := hr.un; omega
    have hu1 : (A.deeper (envOfC "_law_same" (defScope (top 23)) s.heap.objs.size f cdv)).units + 1 < cLine := by have := hr.un; omega
    exact jss_cons (js_if (jt_truth (JE.b (JX.frz (jx_isi2 rfl B.isinstance (jb_rd (pv 1)) rfl B.list boot_list (by decide) (by decide) (by decide) rfl B.tuple boot_tuple (by decide) (by decide) (by decide) rfl))) (fun _ => rfl)) (jss_cons (js_if (JW.t (jw_or (jt_cmp (op_neU hu64) (JE.b (JX.frz (jx_isi1 rfl B.isinstance (jb_rd (pv 0)) rfl B.list boot_list (by decide) (by decide) (by decide) rfl))) (JE.b (JX.frz (jx_isi1 rfl B.isinstance (jb_rd (pv 1)) rfl B.list boot_list (by decide) (by decide) (by decide) rfl))) rfl) (jw_or1 (jt_cmp (op_neU hu64) (JE.b (JX.frz (jx_isi1 rfl B.isinstance (jb_rd (pv 0)) rfl B.tuple boot_tuple (by decide) (by decide) (by decide) rfl))) (JE.b (JX.frz (jx_isi1 rfl B.isinstance (jb_rd (pv 1)) rfl B.tuple boot_tuple (by decide) (by decide) (by decide) rfl))) rfl)))) (jss_one (js_ret (jx_bl))) (jss_nil))
      (jss_one (js_ret (jx_and (jx_cmp (op_eqU hu64) (JE.b (JX.frz (jx_callB cr_lenU rfl B.len boot_len (jab_cons (jb_rd (pv 0)) (jab_nil) rfl) (by decide) (by decide) rfl rfl))) (JE.b (JX.frz (jx_callB cr_lenU rfl B.len boot_len (jab_cons (jb_rd (pv 1)) (jab_nil) rfl) (by decide) (by decide) rfl rfl))) rfl) (jx_one (jx_callB (cr_allU rfl) rfl B.all boot_all (jab_cons (JE.b (JX.frz (jx_lc (own := [("_law_mine_so", 2), ("_law_own", 3)]) rfl scN.nd (ji_zip rfl B.zip (ja_cons (JX.frz (jx_var (pv 0))) (ja_cons (JX.frz (jx_var (pv 1))) (ja_nil) rfl) rfl) rfl rfl) (blkOk_by (own := [("_law_mine_so", 2), ("_law_own", 3)]) (N := N__law_same) (by kernel_rfl)) (fun _ _ _ _ _ => jg_tup rfl (jgs_cons (jg_name (pg_name (i := 2) scN.nd rfl (by first | exact Or.inl rfl | exact Or.inr rfl)) (by decide)) (jgs_cons (jg_name (pg_name (i := 3) scN.nd rfl (by first | exact Or.inl rfl | exact Or.inr rfl)) (by decide)) (jgs_nil) rfl) rfl) rfl rfl) (fun _ _ _ _ _ => jts_nil) (fun _ _ _ _ _ => JX.frz (jx_own cself (hr.mono (by omega)) takes0 rfl (jab_cons (JE.b (JX.frz (jx_var (pv 2)))) (jab_cons (JE.b (JX.frz (jx_var (pv 3)))) (jab_nil) rfl) rfl) (blS (blS bl0)) (by decide) rfl rfl)) (fun _ => rfl)))) (jab_nil) rfl) (by decide) (by decide) rfl rfl)))))) (jss_nil))
      (jss_cons (js_if (jt_cmp op_isU (jb_rd (pv 1)) (JE.b (JX.frz (jx_non))) rfl) (jss_one (js_ret (jx_cmp op_isU (jb_rd (pv 0)) (JE.b (JX.frz (jx_non))) rfl))) (jss_nil))
      (jss_cons (js_if (jt_truth (JE.b (JX.frz (jx_isi2 rfl B.isinstance (jb_rd (pv 1)) rfl B.bool boot_bool (by decide) (by decide) (by decide) rfl B.str boot_str (by decide) (by decide) (by decide) rfl))) (fun _ => rfl)) (jss_one (js_ret (jx_and (jx_cmp (op_eqU hu64) (jb_rd (pv 0)) (jb_rd (pv 1)) rfl) (jx_one (jx_cmp (op_eqU hu64) (JE.b (JX.frz (jx_isi1 rfl B.isinstance (jb_rd (pv 0)) rfl B.bool boot_bool (by decide) (by decide) (by decide) rfl))) (JE.b (JX.frz (jx_isi1 rfl B.isinstance (jb_rd (pv 1)) rfl B.bool boot_bool (by decide) (by decide) (by decide) rfl))) rfl))))) (jss_nil))
      (jss_one (js_ret (jx_and (jx_isi1 rfl B.isinstance (jb_rd (pv 0)) rfl B.int boot_int (by decide) (by decide) (by decide) rfl) (jx_and (jx_not (jx_isi1 rfl B.isinstance (jb_rd (pv 0)) rfl B.bool boot_bool (by decide) (by decide) (by decide) rfl)) (jx_one (jx_cmp (op_eqU hu64) (jb_rd (pv 0)) (jb_rd (pv 1)) rfl))))))))
/-! _law_lists -/
def N__law_lists : List Str := ["_law_matter", "_law_bit"]
theorem sc__law_lists : FnScope N__law_lists ["_law_matter"] (defScope (top 24)) := ⟨rfl, rfl, rfl, by decide +kernel, rfl, by decide +kernel, by decide +kernel⟩
def f__law_lists (dself : List Sl → DR) : T → SR :=
  sRet (sIte (sTru (toB (frz (sIsi ["list", "tuple"] (sRd 0))))) (sLc (sItems (frz (sVar 0))) (gNm 1) (fun τ => .ok true τ) (frz (sCall dself (sBCons (toB (frz (sVar 1))) (sBNil)))) [1]) (sVar 0))
def den__law_lists : Nat → List Sl → DR
  | 0 => fun _ => .stuck
  | n + 1 => run 1 (f__law_lists (den__law_lists n))
def c0__law_lists (dself : List Sl → DR) : D → T → Rs (Option D) :=
  turnC (gNm 1) (fun τ => .ok true τ) (frz (sCall dself (sBCons (toB (frz (sVar 1))) (sBNil)))) [1]
theorem nE__law_lists (dself : List Sl → DR) : f__law_lists dself = (sRet (sIte (sTru (toB (frz (sIsi ["list", "tuple"] (sRd 0))))) (sLcB (sItems (frz (sVar 0))) (c0__law_lists dself) [1]) (sVar 0))) := rfl
theorem ok__law_lists (B : Blt mg) (B2 : B2s mg) (XK : xAll xcs K = true) (XG : ∀ c ∈ xcs, mg (xName c) = some (.ref (xC K c))) (GC : GCs mg) (XR_0 : XRs P w K mg base 0 "name") (D__law_lists : DefOk K mg "_law_lists" (top 24) ["_law_matter"])  : ∀ n : Nat, Callee P w K mg base (pxK K) "_law_lists" (defArgs (top 24)) ["_law_matter"] (n + 0) (den__law_lists n)
  | 0 => callee0 D__law_lists
  | n + 1 => by
    have cself := ok__law_lists B B2 XK XG GC XR_0 D__law_lists  n
    have e1 : n + 1 + 0 = (n + 0) + 1 := by omega
    rw [e1]
    have scN := sc__law_lists
    refine callee (k := n + 0) (m := 1) (g := f__law_lists (den__law_lists n)) D__law_lists sc__law_lists rfl fun f cdv A outer s H E hr tk po => ?_
    have hu64 := hr.units
    have hu65 : (A.deeper (envOfC "_law_lists" (defScope (top 24)) s.heap.objs.size f cdv)).units + 65 < cLine := by have := hr.un; omega
    have hu1 : (A.deeper (envOfC "_law_lists" (defScope (top 24)) s.heap.objs.size f cdv)).units + 1 < cLine := by have := hr.un; omega
    exact jss_one (js_ret (jx_ife (jt_truth (JE.b (JX.frz (jx_isi2 rfl B.isinstance (jb_rd (pv 0)) rfl B.list boot_list (by decide) (by decide) (by decide) rfl B.tuple boot_tuple (by decide) (by decide) (by decide) rfl))) (fun _ => rfl)) (jx_lc (own := [("_law_bit", 1)]) rfl scN.nd (ji_any (JX.frz (jx_var (pv 0)))) (blkOk_by (own := [("_law_bit", 1)]) (N := N__law_lists) (by kernel_rfl)) (fun _ _ _ _ _ => jg_name (pg_name (i := 1) scN.nd rfl (by first | exact Or.inl rfl | exact Or.inr rfl)) (by decide)) (fun _ _ _ _ _ => jts_nil) (fun _ _ _ _ _ => JX.frz (jx_own cself (hr.mono (by omega)) takes0 rfl (jab_cons (JE.b (JX.frz (jx_var (pv 1)))) (jab_nil) rfl) (blS bl0) (by decide) rfl rfl)) (fun _ => rfl)) (jx_var (pv 0))))
/-! _law_pick -/
def N__law_pick : List Str := ["_law_urn", "_law_pool", "_law_size_so", "_law_found", "_law_k", "_law_own"]
theorem sc__law_pick : FnScope N__law_pick ["_law_urn", "_law_pool", "_law_size_so"] (defScope (top 25)) := ⟨rfl, rfl, rfl, by decide +kernel, rfl, by decide +kernel, by decide +kernel⟩
def f__law_pick : T → SR :=
  sSeq (sSet 3 (sSl (toB (frz (sCB (g1 gList) (sBCons (toB (frz (sCall den__law_mixed (sBCons (sRd 0) (sBCons (toB (frz (sLstRg (frz (sCB (g1 gLen) (sBCons (sRd 1) (sBNil))))))) (sBNil)))))) (sBNil))))) (sNoP) (sSmP (frz (sVar 2))))) (sRet (sLc (sEnum (sCons (frz (sVar 1)) (sNil))) (gTp 2 (gN1 (gNm 4) (gN1 (gNm 5) (gN0)))) (sTB (sOp2 (gIn false) (sRd 4) (sRd 3))) (frz (sVar 5)) [4, 5]))
def den__law_pick : List Sl → DR := run 3 f__law_pick
def c0__law_pick : D → T → Rs (Option D) :=
  turnC (gTp 2 (gN1 (gNm 4) (gN1 (gNm 5) (gN0)))) (sTB (sOp2 (gIn false) (sRd 4) (sRd 3))) (frz (sVar 5)) [4, 5]
theorem nE__law_pick : f__law_pick = (sSeq (sSet 3 (sSl (toB (frz (sCB (g1 gList) (sBCons (toB (frz (sCall den__law_mixed (sBCons (sRd 0) (sBCons (toB (frz (sLstRg (frz (sCB (g1 gLen) (sBCons (sRd 1) (sBNil))))))) (sBNil)))))) (sBNil))))) (sNoP) (sSmP (frz (sVar 2))))) (sRet (sLcB (sEnum (sCons (frz (sVar 1)) (sNil))) c0__law_pick [4, 5]))) := rfl
theorem ok__law_pick (B : Blt mg) (B2 : B2s mg) (XK : xAll xcs K = true) (XG : ∀ c ∈ xcs, mg (xName c) = some (.ref (xC K c))) (GC : GCs mg) (XR_0 : XRs P w K mg base 0 "name") (D__law_pick : DefOk K mg "_law_pick" (top 25) ["_law_urn", "_law_pool", "_law_size_so"]) (C__law_mixed : Callee P w K mg base (pxK K) "_law_mixed" (defArgs (top 21)) ["_law_urn", "_law_pool"] 2 den__law_mixed) : Callee P w K mg base (pxK K) "_law_pick" (defArgs (top 25)) ["_law_urn", "_law_pool", "_law_size_so"] 3 den__law_pick := by
  have scN := sc__law_pick
  refine callee (k := 2) (m := 3) (g := f__law_pick) D__law_pick sc__law_pick rfl fun f cdv A outer s H E hr tk po => ?_
  have hu64 := hr.units
  have hu65 : (A.deeper (envOfC "_law_pick" (defScope (top 25)) s.heap.objs.size f cdv)).units + 65 < cLine := by have := hr.un; omega
  have hu1 : (A.deeper (envOfC "_law_pick" (defScope (top 25)) s.heap.objs.size f cdv)).units + 1 < cLine := by have := hr.un; omega
  exact jss_cons (js_asg (ps_set (i := 3) scN.nd rfl (by first | exact Or.inl rfl | exact Or.inr rfl) (jx_sl (JE.b (JX.frz (jx_callTy cr_listU rfl B.list boot_list (jab_cons (JE.b (JX.frz (jx_own C__law_mixed (hr.mono (by decide)) tk rfl (jab_cons (jb_rd (pv 0)) (jab_cons (JE.b (JX.frz (jx_listRg rfl rfl B.list rfl B.range (JX.frz (jx_callB cr_lenU rfl B.len boot_len (jab_cons (jb_rd (pv 1)) (jab_nil) rfl) (by decide) (by decide) rfl rfl)) rfl rfl))) (jab_nil) rfl) rfl) (blS (blS bl0)) (by decide) rfl rfl))) (jab_nil) rfl) (by decide) (by decide) rfl rfl))) (jo_none) (jo_some (JX.frz (jx_var (pv 2))))) (by first | rfl | exact sw_false_name | decide)) (fun _ _ _ h => h))
      (jss_one (js_ret (jx_lc (own := [("_law_k", 4), ("_law_own", 5)]) rfl scN.nd (ji_enum rfl B.enumerate (ja_cons (JX.frz (jx_var (pv 1))) (ja_nil) rfl) rfl) (blkOk_by (own := [("_law_k", 4), ("_law_own", 5)]) (N := N__law_pick) (by kernel_rfl)) (fun _ _ _ _ _ => jg_tup rfl (jgs_cons (jg_name (pg_name (i := 4) scN.nd rfl (by first | exact Or.inl rfl | exact Or.inr rfl)) (by decide)) (jgs_cons (jg_name (pg_name (i := 5) scN.nd rfl (by first | exact Or.inl rfl | exact Or.inr rfl)) (by decide)) (jgs_nil) rfl) rfl) rfl rfl) (fun _ _ _ _ _ => jts_one (jt_cmp (op_inU hu65) (jb_rd (pv 4)) (jb_rd (pv 3)) rfl)) (fun _ _ _ _ _ => JX.frz (jx_var (pv 5))) (fun _ => rfl))))
/-! _law_come -/
def N__law_come : List Str := ["_law_tome", "_law_up", "_law_own", "_law_wants", "_law_far", "_law_k"]
theorem sc__law_come : FnScope N__law_come ["_law_tome", "_law_up"] (defScope (top 26)) := ⟨rfl, rfl, rfl, by decide +kernel, rfl, by decide +kernel, by decide +kernel⟩
def f__law_come : T → SR :=
  sRet (sLc (sItems (frz (sVar 0))) (gTp 2 (gN1 (gNm 2) (gN1 (gNm 3) (gN0)))) (sAnd (sTB (sOp2 (gIn true) (sRd 2) (sRd 1))) (sTB (sOp2 (gEq true) (toB (frz (sLc (sItems (frz (sVar 3))) (gNm 4) (sTB (sOp2 (gEq false) (toB (frz (sLc (sItems (frz (sVar 4))) (gNm 5) (sTB (sOp2 (gIn true) (sRd 5) (sRd 1))) (frz (sVar 5)) [5]))) (toB (frz (sLst (sNil)))))) (frz (sVar 4)) [4]))) (toB (frz (sLst (sNil))))))) (frz (sVar 2)) [2, 3])
def den__law_come : List Sl → DR := run 4 f__law_come
def c0__law_come : D → T → Rs (Option D) :=
  turnC (gNm 5) (sTB (sOp2 (gIn true) (sRd 5) (sRd 1))) (frz (sVar 5)) [5]
def c1__law_come : D → T → Rs (Option D) :=
  turnC (gNm 4) (sTB (sOp2 (gEq false) (toB (frz (sLcB (sItems (frz (sVar 4))) c0__law_come [5]))) (toB (frz (sLst (sNil)))))) (frz (sVar 4)) [4]
def c2__law_come : D → T → Rs (Option D) :=
  turnC (gTp 2 (gN1 (gNm 2) (gN1 (gNm 3) (gN0)))) (sAnd (sTB (sOp2 (gIn true) (sRd 2) (sRd 1))) (sTB (sOp2 (gEq true) (toB (frz (sLcB (sItems (frz (sVar 3))) c1__law_come [4]))) (toB (frz (sLst (sNil))))))) (frz (sVar 2)) [2, 3]
theorem nE__law_come : f__law_come = (sRet (sLcB (sItems (frz (sVar 0))) c2__law_come [2, 3])) := rfl
theorem ok__law_come (B : Blt mg) (B2 : B2s mg) (XK : xAll xcs K = true) (XG : ∀ c ∈ xcs, mg (xName c) = some (.ref (xC K c))) (GC : GCs mg) (XR_0 : XRs P w K mg base 0 "name") (D__law_come : DefOk K mg "_law_come" (top 26) ["_law_tome", "_law_up"])  : Callee P w K mg base (pxK K) "_law_come" (defArgs (top 26)) ["_law_tome", "_law_up"] 1 den__law_come := by
  have scN := sc__law_come
  refine callee (k := 0) (m := 4) (g := f__law_come) D__law_come sc__law_come rfl fun f cdv A outer s H E hr tk po => ?_
  have hu64 := hr.units
  have hu65 : (A.deeper (envOfC "_law_come" (defScope (top 26)) s.heap.objs.size f cdv)).units + 65 < cLine := by have := hr.un; omega
  have hu1 : (A.deeper (envOfC "_law_come" (defScope (top 26)) s.heap.objs.size f cdv)).units + 1 < cLine := by have := hr.un; omega
  exact jss_one (js_ret (jx_lc (own := [("_law_own", 2), ("_law_wants", 3)]) rfl scN.nd (ji_any (JX.frz (jx_var (pv 0)))) (blkOk_by (own := [("_law_own", 2), ("_law_wants", 3)]) (N := N__law_come) (by kernel_rfl)) (fun _ _ _ _ _ => jg_tup rfl (jgs_cons (jg_name (pg_name (i := 2) scN.nd rfl (by first | exact Or.inl rfl | exact Or.inr rfl)) (by decide)) (jgs_cons (jg_name (pg_name (i := 3) scN.nd rfl (by first | exact Or.inl rfl | exact Or.inr rfl)) (by decide)) (jgs_nil) rfl) rfl) rfl rfl) (fun _ _ _ _ _ => jts_one (JW.t (jw_and (jt_cmp (op_notInU hu65) (jb_rd (pv 2)) (jb_rd (pv 1)) rfl) (jw_and1 (jt_cmp (op_neU hu64) (JE.b (JX.frz (jx_lc (own := [("_law_far", 4)]) rfl scN.nd (ji_any (JX.frz (jx_var (pv 3)))) (blkOk_by (own := [("_law_far", 4)]) (N := N__law_come) (by kernel_rfl)) (fun _ _ _ _ _ => jg_name (pg_name (i := 4) scN.nd rfl (by first | exact Or.inl rfl | exact Or.inr rfl)) (by decide)) (fun _ _ _ _ _ => jts_one (jt_cmp (op_eqU hu64) (JE.b (JX.frz (jx_lc (own := [("_law_k", 5)]) rfl scN.nd (ji_any (JX.frz (jx_var (pv 4)))) (blkOk_by (own := [("_law_k", 5)]) (N := N__law_come) (by kernel_rfl)) (fun _ _ _ _ _ => jg_name (pg_name (i := 5) scN.nd rfl (by first | exact Or.inl rfl | exact Or.inr rfl)) (by decide)) (fun _ _ _ _ _ => jts_one (jt_cmp (op_notInU hu65) (jb_rd (pv 5)) (jb_rd (pv 1)) rfl)) (fun _ _ _ _ _ => JX.frz (jx_var (pv 5))) (fun _ => rfl)))) (JE.b (JX.frz (jx_lst (ja_nil)))) rfl)) (fun _ _ _ _ _ => JX.frz (jx_var (pv 4))) (fun _ => rfl)))) (JE.b (JX.frz (jx_lst (ja_nil)))) rfl))))) (fun _ _ _ _ _ => JX.frz (jx_var (pv 2))) (fun _ => rfl)))
/-! _law_orders -/
def N__law_orders : List Str := ["_law_tome", "_law_found", "_law_ready", "_law_here", "_law_free", "_law_own"]
theorem sc__law_orders : FnScope N__law_orders ["_law_tome"] (defScope (top 27)) := ⟨rfl, rfl, rfl, by decide +kernel, rfl, by decide +kernel, by decide +kernel⟩
def f__law_orders : T → SR :=
  sSeq (sPar [1, 2] (sXCons (sLst (sCons (frz (sTup (sNil))) (sNil))) (sXCons (sLst (sNil)) (sXNil)))) (sSeq (sWhile (sTB (sOp2 (gEq true) (sRd 1) (toB (frz (sLst (sNil)))))) (sSeq (sSet 3 (sMeth 1 mPop sNil)) (sSeq (sSet 4 (sCall den__law_come (sBCons (toB (frz (sVar 0))) (sBCons (toB (frz (sVar 3))) (sBNil))))) (sSeq (sIfS (sTB (sOp2 (gEq false) (sRd 4) (toB (frz (sLst (sNil)))))) (sDrop (sMeth 2 mAppend (sCons (frz (sVar 3)) (sNil)))) (sNext)) (sSet 1 (sOp2 gAdd (sRd 1) (toB (frz (sLc (sItems (frz (sVar 4))) (gNm 5) (fun τ => .ok true τ) (frz (sOp2 gAdd (sRd 3) (toB (frz (sTup (sCons (frz (sVar 5)) (sNil))))))) [5]))))))))) (sRet (sCB (g1 gSorted) (sBCons (sRd 2) (sBNil)))))
def den__law_orders : List Sl → DR := run 5 f__law_orders
def c0__law_orders : D → T → Rs (Option D) :=
  turnC (gNm 5) (fun τ => .ok true τ) (frz (sOp2 gAdd (sRd 3) (toB (frz (sTup (sCons (frz (sVar 5)) (sNil))))))) [5]
theorem nE__law_orders : f__law_orders = (sSeq (sPar [1, 2] (sXCons (sLst (sCons (frz (sTup (sNil))) (sNil))) (sXCons (sLst (sNil)) (sXNil)))) (sSeq (sWhile (sTB (sOp2 (gEq true) (sRd 1) (toB (frz (sLst (sNil)))))) (sSeq (sSet 3 (sMeth 1 mPop sNil)) (sSeq (sSet 4 (sCall den__law_come (sBCons (toB (frz (sVar 0))) (sBCons (toB (frz (sVar 3))) (sBNil))))) (sSeq (sIfS (sTB (sOp2 (gEq false) (sRd 4) (toB (frz (sLst (sNil)))))) (sDrop (sMeth 2 mAppend (sCons (frz (sVar 3)) (sNil)))) (sNext)) (sSet 1 (sOp2 gAdd (sRd 1) (toB (frz (sLcB (sItems (frz (sVar 4))) c0__law_orders [5]))))))))) (sRet (sCB (g1 gSorted) (sBCons (sRd 2) (sBNil)))))) := rfl
theorem ok__law_orders (B : Blt mg) (B2 : B2s mg) (XK : xAll xcs K = true) (XG : ∀ c ∈ xcs, mg (xName c) = some (.ref (xC K c))) (GC : GCs mg) (XR_0 : XRs P w K mg base 0 "name") (D__law_orders : DefOk K mg "_law_orders" (top 27) ["_law_tome"]) (C__law_come : Callee P w K mg base (pxK K) "_law_come" (defArgs (top 26)) ["_law_tome", "_law_up"] 1 den__law_come) : Callee P w K mg base (pxK K) "_law_orders" (defArgs (top 27)) ["_law_tome"] 2 den__law_orders := by
  have scN := sc__law_orders
  refine callee (k := 1) (m := 5) (g := f__law_orders) D__law_orders sc__law_orders rfl fun f cdv A outer s H E hr tk po => ?_
  have hu64 := hr.units
  have hu65 : (A.deeper (envOfC "_law_orders" (defScope (top 27)) s.heap.objs.size f cdv)).units + 65 < cLine := by have := hr.un; omega
  have hu1 : (A.deeper (envOfC "_law_orders" (defScope (top 27)) s.heap.objs.size f cdv)).units + 1 < cLine := by have := hr.un; omega
  exact jss_cons (js_par (is := [1, 2]) (xs := ["_law_found", "_law_ready"]) rfl scN.nd rfl (by kernel_rfl) (by decide) (jax_cons (jx_lst (ja_cons (JX.frz (jx_tup (ja_nil))) (ja_nil) rfl)) (jax_cons (jx_lst (ja_nil)) (jax_nil) rfl) rfl) rfl rfl)
      (jss_cons (js_while po (jt_cmp (op_neU hu64) (jb_rd (pv 1)) (JE.b (JX.frz (jx_lst (ja_nil)))) rfl) (jss_cons (js_asg (ps_set (i := 3) scN.nd rfl (by first | exact Or.inl rfl | exact Or.inr rfl) (jx_meth0 PySem.F.slot_list_pop PySem.F.type_list_pop mo_pop (pv 1) rfl rfl) (by first | rfl | exact sw_false_name | decide)) (fun _ _ _ h => h))
      (jss_cons (js_asg (ps_set (i := 4) scN.nd rfl (by first | exact Or.inl rfl | exact Or.inr rfl) (jx_own C__law_come (hr.mono (by decide)) tk rfl (jab_cons (JE.b (JX.frz (jx_var (pv 0)))) (jab_cons (JE.b (JX.frz (jx_var (pv 3)))) (jab_nil) rfl) rfl) (blS (blS bl0)) (by decide) rfl rfl) (by first | rfl | exact sw_false_name | decide)) (fun _ _ _ h => h))
      (jss_cons (js_if (jt_cmp (op_eqU hu64) (jb_rd (pv 4)) (JE.b (JX.frz (jx_lst (ja_nil)))) rfl) (jss_one (js_expr (jx_meth PySem.F.slot_list_append PySem.F.type_list_append mo_append (pv 2) (ja_cons (JX.frz (jx_var (pv 3))) (ja_nil) rfl) rfl rfl rfl rfl rfl) rfl)) (jss_nil))
      (jss_one (js_asg (ps_set (i := 1) scN.nd rfl (by first | exact Or.inl rfl | exact Or.inr rfl) (jx_bin op_addU (jb_rd (pv 1)) (JE.b (JX.frz (jx_lc (own := [("_law_own", 5)]) rfl scN.nd (ji_any (JX.frz (jx_var (pv 4)))) (blkOk_by (own := [("_law_own", 5)]) (N := N__law_orders) (by kernel_rfl)) (fun _ _ _ _ _ => jg_name (pg_name (i := 5) scN.nd rfl (by first | exact Or.inl rfl | exact Or.inr rfl)) (by decide)) (fun _ _ _ _ _ => jts_nil) (fun _ _ _ _ _ => JX.frz (jx_bin op_addU (jb_rd (pv 3)) (JE.b (JX.frz (jx_tup (ja_cons (JX.frz (jx_var (pv 5))) (ja_nil) rfl)))))) (fun _ => rfl))))) (by first | rfl | exact sw_false_name | decide)) (fun _ _ _ h => h)))))))
      (jss_one (js_ret (jx_callB (cr_sortedU hu64) rfl B.sorted boot_sorted (jab_cons (jb_rd (pv 2)) (jab_nil) rfl) (by decide) (by decide) rfl rfl))))
/-! _law_subsets -/
def N__law_subsets : List Str := ["_law_names_so", "_law_found", "_law_own", "_law_lot"]
theorem sc__law_subsets : FnScope N__law_subsets ["_law_names_so"] (defScope (top 28)) := ⟨rfl, rfl, rfl, by decide +kernel, rfl, by decide +kernel, by decide +kernel⟩
def f__law_subsets : T → SR :=
  sSeq (sSet 1 (sLst (sCons (frz (sTup (sNil))) (sNil)))) (sSeq (sFor (sItems (frz (sCB (g1 gSorted) (sBCons (sRd 0) (sBNil))))) (gNm 2) (sSet 1 (sOp2 gAdd (sRd 1) (toB (frz (sFzX [2] (sLc (sItems (frz (sVar 1))) (gNm 3) (fun τ => .ok true τ) (frz (sOp2 gAdd (sRd 3) (toB (frz (sTup (sCons (frz (sVar 2)) (sNil))))))) [3]))))))) (sRet (sCB (g1 gSorted) (sBCons (sRd 1) (sBNil)))))
def den__law_subsets : List Sl → DR := run 3 f__law_subsets
def c0__law_subsets : D → T → Rs (Option D) :=
  turnC (gNm 3) (fun τ => .ok true τ) (frz (sOp2 gAdd (sRd 3) (toB (frz (sTup (sCons (frz (sVar 2)) (sNil))))))) [3]
def b0__law_subsets : D → T → SR :=
  sBody (gNm 2) (sSet 1 (sOp2 gAdd (sRd 1) (toB (frz (sFzX [2] (sLcB (sItems (frz (sVar 1))) c0__law_subsets [3]))))))
theorem nE__law_subsets : f__law_subsets = (sSeq (sSet 1 (sLst (sCons (frz (sTup (sNil))) (sNil)))) (sSeq (sForB (sItems (frz (sCB (g1 gSorted) (sBCons (sRd 0) (sBNil))))) b0__law_subsets) (sRet (sCB (g1 gSorted) (sBCons (sRd 1) (sBNil)))))) := rfl
theorem ok__law_subsets (B : Blt mg) (B2 : B2s mg) (XK : xAll xcs K = true) (XG : ∀ c ∈ xcs, mg (xName c) = some (.ref (xC K c))) (GC : GCs mg) (XR_0 : XRs P w K mg base 0 "name") (D__law_subsets : DefOk K mg "_law_subsets" (top 28) ["_law_names_so"])  : Callee P w K mg base (pxK K) "_law_subsets" (defArgs (top 28)) ["_law_names_so"] 1 den__law_subsets := by
  have scN := sc__law_subsets
  refine callee (k := 0) (m := 3) (g := f__law_subsets) D__law_subsets sc__law_subsets rfl fun f cdv A outer s H E hr tk po => ?_
  have hu64 := hr.units
  have hu65 : (A.deeper (envOfC "_law_subsets" (defScope (top 28)) s.heap.objs.size f cdv)).units + 65 < cLine := by have := hr.un; omega
  have hu1 : (A.deeper (envOfC "_law_subsets" (defScope (top 28)) s.heap.objs.size f cdv)).units + 1 < cLine := by have := hr.un; omega
  exact jss_cons (js_asg (ps_set (i := 1) scN.nd rfl (by first | exact Or.inl rfl | exact Or.inr rfl) (jx_lst (ja_cons (JX.frz (jx_tup (ja_nil))) (ja_nil) rfl)) (by first | rfl | exact sw_false_name | decide)) (fun _ _ _ h => h))
      (jss_cons (js_for (gs := [2]) po rfl (ji_any (JX.frz (jx_callB (cr_sortedU hu64) rfl B.sorted boot_sorted (jab_cons (jb_rd (pv 0)) (jab_nil) rfl) (by decide) (by decide) rfl rfl))) (jg_name (pg_name (i := 2) scN.nd rfl (by first | exact Or.inl rfl | exact Or.inr rfl)) (by decide)) (jss_one (js_asg (ps_set (i := 1) scN.nd rfl (by first | exact Or.inl rfl | exact Or.inr rfl) (jx_bin op_addU (jb_rd (pv 1)) (JE.b (JX.frz (jx_fz [2] (jx_lc (own := [("_law_lot", 3)]) rfl scN.nd (ji_any (JX.frz (jx_var (pv 1)))) (blkOk_by (own := [("_law_lot", 3)]) (N := N__law_subsets) (by kernel_rfl)) (fun _ _ _ _ _ => jg_name (pg_name (i := 3) scN.nd rfl (by first | exact Or.inl rfl | exact Or.inr rfl)) (by decide)) (fun _ _ _ _ _ => jts_nil) (fun _ _ _ _ _ => JX.frz (jx_bin op_addU (jb_rd (pv 3)) (JE.b (JX.frz (jx_tup (ja_cons (JX.frz (jx_var (pv 2))) (ja_nil) rfl)))))) (fun _ => rfl)))))) (by first | rfl | exact sw_false_name | decide)) (fun _ _ _ h => h))) (fun _ => rfl))
      (jss_one (js_ret (jx_callB (cr_sortedU hu64) rfl B.sorted boot_sorted (jab_cons (jb_rd (pv 1)) (jab_nil) rfl) (by decide) (by decide) rfl rfl))))
/-! _law_book -/
def N__law_book : List Str := ["_law_urn", "_law_most", "_law_names_so", "_law_found", "_law_own", "_law_wants", "_law_turn"]
theorem sc__law_book : FnScope N__law_book ["_law_urn", "_law_most"] (defScope (top 29)) := ⟨rfl, rfl, rfl, by decide +kernel, rfl, by decide +kernel, by decide +kernel⟩
def f__law_book : T → SR :=
  sSeq (sSet 2 (sCB (g1 gSorted) (sBCons (toB (frz (sCall den__law_pick (sBCons (sRd 0) (sBCons (toB (frz (sLst (sCons (frz (sC (.str [97]))) (sCons (frz (sC (.str [98]))) (sCons (frz (sC (.str [99]))) (sCons (frz (sC (.str [100, 105, 115, 107]))) (sCons (frz (sC (.str [101]))) (sCons (frz (sC (.str [110, 101, 116]))) (sCons (frz (sC (.str [119, 101, 98]))) (sCons (frz (sC (.str [120]))) (sNil)))))))))))) (sBCons (toB (frz (sOp2 gAdd (toB (frz (sC (.int 1)))) (toB (frz (sCall den__law_take (sBCons (sRd 0) (sBCons (toB (frz (sVar 1))) (sBNil))))))))) (sBNil))))))) (sBNil)))) (sSeq (sSet 3 (sLst (sNil))) (sSeq (sFzS [2] (sFor (sItems (frz (sVar 2))) (gNm 4) (sSeq (sSet 5 (sLst (sNil))) (sSeq (sFzS [2] (sFor (sRng1 (sCons (frz (sCall den__law_take (sBCons (sRd 0) (sBCons (toB (frz (sC (.int 4)))) (sBNil))))) (sNil))) (gNm 6) (sDrop (sMeth 5 mAppend (sCons (frz (sCB (g1 gTuple) (sBCons (toB (frz (sCB (g1 gSorted) (sBCons (toB (frz (sCall den__law_pick (sBCons (sRd 0) (sBCons (toB (frz (sVar 2))) (sBCons (toB (frz (sCall den__law_take (sBCons (sRd 0) (sBCons (toB (frz (sC (.int 3)))) (sBNil)))))) (sBNil))))))) (sBNil))))) (sBNil)))) (sNil)))))) (sSeq (sIfS (sTB (sOp2 (gEq false) (toB (frz (sCall den__law_take (sBCons (sRd 0) (sBCons (toB (frz (sC (.int 4)))) (sBNil)))))) (toB (frz (sC (.int 0)))))) (sDrop (sMeth 5 mAppend (sCons (frz (sTup (sNil))) (sNil)))) (sNext)) (sDrop (sMeth 3 mAppend (sCons (frz (sTup (sCons (frz (sVar 4)) (sCons (frz (sCB (g1 gTuple) (sBCons (toB (frz (sCB (g1 gSS) (sBCons (sRd 5) (sBNil))))) (sBNil)))) (sNil))))) (sNil))))))))) (sRet (sCB (g1 gTuple) (sBCons (sRd 3) (sBNil))))))
def den__law_book : List Sl → DR := run 5 f__law_book
def b0__law_book : D → T → SR :=
  sBody (gNm 6) (sDrop (sMeth 5 mAppend (sCons (frz (sCB (g1 gTuple) (sBCons (toB (frz (sCB (g1 gSorted) (sBCons (toB (frz (sCall den__law_pick (sBCons (sRd 0) (sBCons (toB (frz (sVar 2))) (sBCons (toB (frz (sCall den__law_take (sBCons (sRd 0) (sBCons (toB (frz (sC (.int 3)))) (sBNil)))))) (sBNil))))))) (sBNil))))) (sBNil)))) (sNil))))
def b1__law_book : D → T → SR :=
  sBody (gNm 4) (sSeq (sSet 5 (sLst (sNil))) (sSeq (sFzS [2] (sForB (sRng1 (sCons (frz (sCall den__law_take (sBCons (sRd 0) (sBCons (toB (frz (sC (.int 4)))) (sBNil))))) (sNil))) b0__law_book)) (sSeq (sIfS (sTB (sOp2 (gEq false) (toB (frz (sCall den__law_take (sBCons (sRd 0) (sBCons (toB (frz (sC (.int 4)))) (sBNil)))))) (toB (frz (sC (.int 0)))))) (sDrop (sMeth 5 mAppend (sCons (frz (sTup (sNil))) (sNil)))) (sNext)) (sDrop (sMeth 3 mAppend (sCons (frz (sTup (sCons (frz (sVar 4)) (sCons (frz (sCB (g1 gTuple) (sBCons (toB (frz (sCB (g1 gSS) (sBCons (sRd 5) (sBNil))))) (sBNil)))) (sNil))))) (sNil)))))))
theorem nE__law_book : f__law_book = (sSeq (sSet 2 (sCB (g1 gSorted) (sBCons (toB (frz (sCall den__law_pick (sBCons (sRd 0) (sBCons (toB (frz (sLst (sCons (frz (sC (.str [97]))) (sCons (frz (sC (.str [98]))) (sCons (frz (sC (.str [99]))) (sCons (frz (sC (.str [100, 105, 115, 107]))) (sCons (frz (sC (.str [101]))) (sCons (frz (sC (.str [110, 101, 116]))) (sCons (frz (sC (.str [119, 101, 98]))) (sCons (frz (sC (.str [120]))) (sNil)))))))))))) (sBCons (toB (frz (sOp2 gAdd (toB (frz (sC (.int 1)))) (toB (frz (sCall den__law_take (sBCons (sRd 0) (sBCons (toB (frz (sVar 1))) (sBNil))))))))) (sBNil))))))) (sBNil)))) (sSeq (sSet 3 (sLst (sNil))) (sSeq (sFzS [2] (sForB (sItems (frz (sVar 2))) b1__law_book)) (sRet (sCB (g1 gTuple) (sBCons (sRd 3) (sBNil))))))) := rfl
theorem ok__law_book (B : Blt mg) (B2 : B2s mg) (XK : xAll xcs K = true) (XG : ∀ c ∈ xcs, mg (xName c) = some (.ref (xC K c))) (GC : GCs mg) (XR_0 : XRs P w K mg base 0 "name") (D__law_book : DefOk K mg "_law_book" (top 29) ["_law_urn", "_law_most"]) (C__law_pick : Callee P w K mg base (pxK K) "_law_pick" (defArgs (top 25)) ["_law_urn", "_law_pool", "_law_size_so"] 3 den__law_pick) (C__law_take : Callee P w K mg base (pxK K) "_law_take" (defArgs (top 22)) ["_law_urn", "_law_low_so"] 1 den__law_take) : Callee P w K mg base (pxK K) "_law_book" (defArgs (top 29)) ["_law_urn", "_law_most"] 4 den__law_book := by
  have scN := sc__law_book
  refine callee (k := 3) (m := 5) (g := f__law_book) D__law_book sc__law_book rfl fun f cdv A outer s H E hr tk po => ?_
  have hu64 := hr.units
  have hu65 : (A.deeper (envOfC "_law_book" (defScope (top 29)) s.heap.objs.size f cdv)).units + 65 < cLine := by have := hr.un; omega
  have hu1 : (A.deeper (envOfC "_law_book" (defScope (top 29)) s.heap.objs.size f cdv)).units + 1 < cLine := by have := hr.un; omega
  exact jss_cons (js_asg (ps_set (i := 2) scN.nd rfl (by first | exact Or.inl rfl | exact Or.inr rfl) (jx_callB (cr_sortedU hu64) rfl B.sorted boot_sorted (jab_cons (JE.b (JX.frz (jx_own C__law_pick (hr.mono (by decide)) tk rfl (jab_cons (jb_rd (pv 0)) (jab_cons (JE.b (JX.frz (jx_lst (ja_cons (JX.frz (jx_strE (by decide +kernel))) (ja_cons (JX.frz (jx_strE (by decide +kernel))) (ja_cons (JX.frz (jx_strE (by decide +kernel))) (ja_cons (JX.frz (jx_strE (by decide +kernel))) (ja_cons (JX.frz (jx_strE (by decide +kernel))) (ja_cons (JX.frz (jx_strE (by decide +kernel))) (ja_cons (JX.frz (jx_strE (by decide +kernel))) (ja_cons (JX.frz (jx_strE (by decide +kernel))) (ja_nil) rfl) rfl) rfl) rfl) rfl) rfl) rfl) rfl)))) (jab_cons (JE.b (JX.frz (jx_bin op_addU (JE.b (JX.frz (jx_int))) (JE.b (JX.frz (jx_own C__law_take (hr.mono (by decide)) tk rfl (jab_cons (jb_rd (pv 0)) (jab_cons (JE.b (JX.frz (jx_var (pv 1)))) (jab_nil) rfl) rfl) (blS (blS bl0)) (by decide) rfl rfl)))))) (jab_nil) rfl) rfl) rfl) (blS (blS (blS bl0))) (by decide) rfl rfl))) (jab_nil) rfl) (by decide) (by decide) rfl rfl) (by first | rfl | exact sw_false_name | decide)) (fun _ _ _ h => h))
      (jss_cons (js_asg (ps_set (i := 3) scN.nd rfl (by first | exact Or.inl rfl | exact Or.inr rfl) (jx_lst (ja_nil)) (by first | rfl | exact sw_false_name | decide)) (fun _ _ _ h => h))
      (jss_cons (js_fz [2] (js_for (gs := [4]) po rfl (ji_any (JX.frz (jx_var (pv 2)))) (jg_name (pg_name (i := 4) scN.nd rfl (by first | exact Or.inl rfl | exact Or.inr rfl)) (by decide)) (jss_cons (js_asg (ps_set (i := 5) scN.nd rfl (by first | exact Or.inl rfl | exact Or.inr rfl) (jx_lst (ja_nil)) (by first | rfl | exact sw_false_name | decide)) (fun _ _ _ h => h))
      (jss_cons (js_fz [2] (js_for (gs := [6]) po rfl (ji_range1 rfl B.range (ja_cons (JX.frz (jx_own C__law_take (hr.mono (by decide)) tk rfl (jab_cons (jb_rd (pv 0)) (jab_cons (JE.b (JX.frz (jx_int))) (jab_nil) rfl) rfl) (blS (blS bl0)) (by decide) rfl rfl)) (ja_nil) rfl) rfl) (jg_name (pg_name (i := 6) scN.nd rfl (by first | exact Or.inl rfl | exact Or.inr rfl)) (by decide)) (jss_one (js_expr (jx_meth PySem.F.slot_list_append PySem.F.type_list_append mo_append (pv 5) (ja_cons (JX.frz (jx_callTy (cr_tupleU rfl) rfl B.tuple boot_tuple (jab_cons (JE.b (JX.frz (jx_callB (cr_sortedU hu64) rfl B.sorted boot_sorted (jab_cons (JE.b (JX.frz (jx_own C__law_pick (hr.mono (by decide)) tk rfl (jab_cons (jb_rd (pv 0)) (jab_cons (JE.b (JX.frz (jx_var (pv 2)))) (jab_cons (JE.b (JX.frz (jx_own C__law_take (hr.mono (by decide)) tk rfl (jab_cons (jb_rd (pv 0)) (jab_cons (JE.b (JX.frz (jx_int))) (jab_nil) rfl) rfl) (blS (blS bl0)) (by decide) rfl rfl))) (jab_nil) rfl) rfl) rfl) (blS (blS (blS bl0))) (by decide) rfl rfl))) (jab_nil) rfl) (by decide) (by decide) rfl rfl))) (jab_nil) rfl) (by decide) (by decide) rfl rfl)) (ja_nil) rfl) rfl rfl rfl rfl rfl) rfl)) (fun _ => rfl)))
      (jss_cons (js_if (jt_cmp (op_eqU hu64) (JE.b (JX.frz (jx_own C__law_take (hr.mono (by decide)) tk rfl (jab_cons (jb_rd (pv 0)) (jab_cons (JE.b (JX.frz (jx_int))) (jab_nil) rfl) rfl) (blS (blS bl0)) (by decide) rfl rfl))) (JE.b (JX.frz (jx_int))) rfl) (jss_one (js_expr (jx_meth PySem.F.slot_list_append PySem.F.type_list_append mo_append (pv 5) (ja_cons (JX.frz (jx_tup (ja_nil))) (ja_nil) rfl) rfl rfl rfl rfl rfl) rfl)) (jss_nil))
      (jss_one (js_expr (jx_meth PySem.F.slot_list_append PySem.F.type_list_append mo_append (pv 3) (ja_cons (JX.frz (jx_tup (ja_cons (JX.frz (jx_var (pv 4))) (ja_cons (JX.frz (jx_callTy (cr_tupleU rfl) rfl B.tuple boot_tuple (jab_cons (JE.b (JX.frz (jx_ss rfl hu64 rfl B.sorted rfl B.set (jab_cons (jb_rd (pv 5)) (jab_nil) rfl) rfl))) (jab_nil) rfl) (by decide) (by decide) rfl rfl)) (ja_nil) rfl) rfl))) (ja_nil) rfl) rfl rfl rfl rfl rfl) rfl))))) (fun _ => rfl)))
      (jss_one (js_ret (jx_callTy (cr_tupleU rfl) rfl B.tuple boot_tuple (jab_cons (jb_rd (pv 3)) (jab_nil) rfl) (by decide) (by decide) rfl rfl)))))
/-! _law_words -/
def N__law_words : List Str := ["_law_text", "_law_found", "_law_own", "_law_bits_so", "_law_wants", "_law_far"]
theorem sc__law_words : FnScope N__law_words ["_law_text"] (defScope (top 30)) := ⟨rfl, rfl, rfl, by decide +kernel, rfl, by decide +kernel, by decide +kernel⟩
def f__law_words : T → SR :=
  sSeq (sSet 1 (sLst (sNil))) (sSeq (sFor (sItems (frz (sBm gSplit (frz (sVar 0)) (frz (sC (.str [59, 32])))))) (gNm 2) (sSeq (sSet 3 (sBm gSplit (frz (sVar 2)) (frz (sC (.str [32]))))) (sSeq (sSet 4 (sLc (sItems (frz (sSl (sRd 3) (sSmP (frz (sC (.int 1)))) (sNoP)))) (gNm 5) (sTB (sOp2 (gEq true) (sRd 5) (toB (frz (sC (.str [45])))))) (frz (sIte (sTB (sOp2 (gEq false) (sRd 5) (toB (frz (sC (.str [48])))))) (sTup (sNil)) (sCB (g1 gTuple) (sBCons (toB (frz (sBm gSplit (frz (sVar 5)) (frz (sC (.str [43])))))) (sBNil))))) [5])) (sDrop (sMeth 1 mAppend (sCons (frz (sTup (sCons (frz (sOp2 gIx (sRd 3) (toB (frz (sC (.int 0)))))) (sCons (frz (sCB (g1 gTuple) (sBCons (toB (frz (sCB (g1 gSorted) (sBCons (sRd 4) (sBNil))))) (sBNil)))) (sNil))))) (sNil))))))) (sRet (sCB (g1 gTuple) (sBCons (sRd 1) (sBNil)))))
def den__law_words : List Sl → DR := run 5 f__law_words
def c0__law_words : D → T → Rs (Option D) :=
  turnC (gNm 5) (sTB (sOp2 (gEq true) (sRd 5) (toB (frz (sC (.str [45])))))) (frz (sIte (sTB (sOp2 (gEq false) (sRd 5) (toB (frz (sC (.str [48])))))) (sTup (sNil)) (sCB (g1 gTuple) (sBCons (toB (frz (sBm gSplit (frz (sVar 5)) (frz (sC (.str [43])))))) (sBNil))))) [5]
def b0__law_words : D → T → SR :=
  sBody (gNm 2) (sSeq (sSet 3 (sBm gSplit (frz (sVar 2)) (frz (sC (.str [32]))))) (sSeq (sSet 4 (sLcB (sItems (frz (sSl (sRd 3) (sSmP (frz (sC (.int 1)))) (sNoP)))) c0__law_words [5])) (sDrop (sMeth 1 mAppend (sCons (frz (sTup (sCons (frz (sOp2 gIx (sRd 3) (toB (frz (sC (.int 0)))))) (sCons (frz (sCB (g1 gTuple) (sBCons (toB (frz (sCB (g1 gSorted) (sBCons (sRd 4) (sBNil))))) (sBNil)))) (sNil))))) (sNil))))))
theorem nE__law_words : f__law_words = (sSeq (sSet 1 (sLst (sNil))) (sSeq (sForB (sItems (frz (sBm gSplit (frz (sVar 0)) (frz (sC (.str [59, 32])))))) b0__law_words) (sRet (sCB (g1 gTuple) (sBCons (sRd 1) (sBNil)))))) := rfl
theorem ok__law_words (B : Blt mg) (B2 : B2s mg) (XK : xAll xcs K = true) (XG : ∀ c ∈ xcs, mg (xName c) = some (.ref (xC K c))) (GC : GCs mg) (XR_0 : XRs P w K mg base 0 "name") (D__law_words : DefOk K mg "_law_words" (top 30) ["_law_text"])  : Callee P w K mg base (pxK K) "_law_words" (defArgs (top 30)) ["_law_text"] 1 den__law_words := by
  have scN := sc__law_words
  refine callee (k := 0) (m := 5) (g := f__law_words) D__law_words sc__law_words rfl fun f cdv A outer s H E hr tk po => ?_
  have hu64 := hr.units
  have hu65 : (A.deeper (envOfC "_law_words" (defScope (top 30)) s.heap.objs.size f cdv)).units + 65 < cLine := by have := hr.un; omega
  have hu1 : (A.deeper (envOfC "_law_words" (defScope (top 30)) s.heap.objs.size f cdv)).units + 1 < cLine := by have := hr.un; omega
  exact jss_cons (js_asg (ps_set (i := 1) scN.nd rfl (by first | exact Or.inl rfl | exact Or.inr rfl) (jx_lst (ja_nil)) (by first | rfl | exact sw_false_name | decide)) (fun _ _ _ h => h))
      (jss_cons (js_for (gs := [2]) po rfl (ji_any (JX.frz (jx_split (JX.frz (jx_var (pv 0))) (JX.frz (jx_strE (by decide +kernel))) rfl rfl rfl rfl))) (jg_name (pg_name (i := 2) scN.nd rfl (by first | exact Or.inl rfl | exact Or.inr rfl)) (by decide)) (jss_cons (js_asg (ps_set (i := 3) scN.nd rfl (by first | exact Or.inl rfl | exact Or.inr rfl) (jx_split (JX.frz (jx_var (pv 2))) (JX.frz (jx_strE (by decide +kernel))) rfl rfl rfl rfl) (by first | rfl | exact sw_false_name | decide)) (fun _ _ _ h => h))
      (jss_cons (js_setLc (i := 4) (own := [("_law_far", 5)]) rfl scN.nd rfl rfl (sw_true rfl rfl rfl (by decide +kernel)) (ji_any (JX.frz (jx_sl (jb_rd (pv 3)) (jo_some (JX.frz (jx_int))) (jo_none)))) (blkOk_by (own := [("_law_far", 5)]) (N := N__law_words) (by kernel_rfl)) (fun _ _ _ _ _ => jg_name (pg_name (i := 5) scN.nd rfl (by first | exact Or.inl rfl | exact Or.inr rfl)) (by decide)) (fun _ _ _ _ _ => jts_one (jt_cmp (op_neU hu64) (jb_rd (pv 5)) (JE.b (JX.frz (jx_strE (by decide +kernel)))) rfl)) (fun _ _ _ _ _ => JX.frz (jx_ife (jt_cmp (op_eqU hu64) (jb_rd (pv 5)) (JE.b (JX.frz (jx_strE (by decide +kernel)))) rfl) (jx_tup (ja_nil)) (jx_callTy (cr_tupleU rfl) rfl B.tuple boot_tuple (jab_cons (JE.b (JX.frz (jx_split (JX.frz (jx_var (pv 5))) (JX.frz (jx_strE (by decide +kernel))) rfl rfl rfl rfl))) (jab_nil) rfl) (by decide) (by decide) rfl rfl))) (fun _ => rfl))
      (jss_one (js_expr (jx_meth PySem.F.slot_list_append PySem.F.type_list_append mo_append (pv 1) (ja_cons (JX.frz (jx_tup (ja_cons (JX.frz (jx_ix (ix_U hu1) (jb_rd (pv 3)) (JE.b (JX.frz (jx_int))) (fun _ _ => rfl))) (ja_cons (JX.frz (jx_callTy (cr_tupleU rfl) rfl B.tuple boot_tuple (jab_cons (JE.b (JX.frz (jx_callB (cr_sortedU hu64) rfl B.sorted boot_sorted (jab_cons (jb_rd (pv 4)) (jab_nil) rfl) (by decide) (by decide) rfl rfl))) (jab_nil) rfl) (by decide) (by decide) rfl rfl)) (ja_nil) rfl) rfl))) (ja_nil) rfl) rfl rfl rfl rfl rfl) rfl)))) (fun _ => rfl))
      (jss_one (js_ret (jx_callTy (cr_tupleU rfl) rfl B.tuple boot_tuple (jab_cons (jb_rd (pv 1)) (jab_nil) rfl) (by decide) (by decide) rfl rfl))))
/-! _law_heard -/
def N__law_heard : List Str := ["_law_tome", "_law_lot_so", "_law_caught", "error"]
theorem sc__law_heard : FnScope N__law_heard ["_law_tome", "_law_lot_so"] (defScope (top 31)) := ⟨rfl, rfl, rfl, by decide +kernel, rfl, by decide +kernel, by decide +kernel⟩
def f__law_heard : T → SR :=
  sSeq (sSet 2 (sC .non)) (sSeq (sTry (sDrop (sCall den_lost_without (sBCons (toB (frz (sVar 0))) (sBCons (toB (frz (sVar 1))) (sBNil))))) (sCatch 3 0 [] (sSet 2 (sVar 3)) (sNoCatch))) (sRet (sIte (sTB (sOp2 (gIs true) (sRd 2) (toB (frz (sC .non))))) (sLst (sCons (frz (sFld [0] "name" (frz (sVar 2)))) (sCons (frz (sIsX (xcs.map fun c => (c, !xVE c)) (frz (sVar 2)))) (sNil)))) (sLst (sNil)))))
def den__law_heard : List Sl → DR := run 2 f__law_heard
theorem ok__law_heard (B : Blt mg) (B2 : B2s mg) (XK : xAll xcs K = true) (XG : ∀ c ∈ xcs, mg (xName c) = some (.ref (xC K c))) (GC : GCs mg) (XR_0 : XRs P w K mg base 0 "name") (D__law_heard : DefOk K mg "_law_heard" (top 31) ["_law_tome", "_law_lot_so"]) (C_lost_without : Callee P w K mg base (pxK K) "lost_without" (defArgs (top 17)) ["book", "some"] 17 den_lost_without) : Callee P w K mg base (pxK K) "_law_heard" (defArgs (top 31)) ["_law_tome", "_law_lot_so"] 18 den__law_heard := by
  have scN := sc__law_heard
  refine callee (k := 17) (m := 2) (g := f__law_heard) D__law_heard sc__law_heard rfl fun f cdv A outer s H E hr tk po => ?_
  have hu64 := hr.units
  have hu65 : (A.deeper (envOfC "_law_heard" (defScope (top 31)) s.heap.objs.size f cdv)).units + 65 < cLine := by have := hr.un; omega
  have hu1 : (A.deeper (envOfC "_law_heard" (defScope (top 31)) s.heap.objs.size f cdv)).units + 1 < cLine := by have := hr.un; omega
  exact jss_cons (js_asg (ps_set (i := 2) scN.nd rfl (by first | exact Or.inl rfl | exact Or.inr rfl) (jx_non) (by first | rfl | exact sw_false_name | decide)) (fun _ _ _ h => h))
      (jss_cons (js_try rfl rfl (fun _ _ _ tk po => jss_one (js_expr (jx_own C_lost_without (hr.mono (by decide)) tk rfl (jab_cons (JE.b (JX.frz (jx_var (pv 0)))) (jab_cons (JE.b (JX.frz (jx_var (pv 1)))) (jab_nil) rfl) rfl) (blS (blS bl0)) (by decide) rfl rfl) rfl)) (jh_as (i := 3) (c := 0) (os := []) rfl rfl scN.nd rfl rfl rfl (by decide) (XG 0 (by decide)) (x_exm XK (by decide) (by decide)) (fun c h => by first | (cases h; done) | (rw [x_exm XK ((by decide : ∀ c ∈ [], c ∈ xcs) c h) (by decide : 0 ∈ xcs)]; revert c; decide)) (fun _ _ => jss_one (js_asg (ps_set (i := 2) scN.nd rfl (by first | exact Or.inl rfl | exact Or.inr rfl) (jx_var (pv 3)) (by first | rfl | exact sw_false_name | decide)) (fun _ _ _ h => h))) (jh_nil rfl rfl tk)))
      (jss_one (js_ret (jx_ife (jt_cmp op_isNotU (jb_rd (pv 2)) (JE.b (JX.frz (jx_non))) rfl) (jx_lst (ja_cons (JX.frz (jx_fld (fun c h => x_fl XK ((by decide : ∀ c ∈ [0], c ∈ xcs) c h) ((by decide +kernel : ∀ c ∈ [0], ("name" : Str) ∈ xFlds c) c h)) (JX.frz (jx_var (pv 2))) rfl)) (ja_cons (JX.frz (jx_isX rfl B.isinstance (x_isL XK (fun _ h => h)) (by intro u h; exact h) (pe_tyn rfl B2.2 PyProof.Rows.Boot.«LookupError» (by decide) (by decide)) (JX.frz (jx_var (pv 2))) rfl)) (ja_nil) rfl) rfl)) (jx_lst (ja_nil))))))
/-! _law_by_hand_right -/
def N__law_by_hand_right : List Str := ["_law_either", "_law_chain", "_law_got", "_law_due", "_law_ways_so", "_law_wide"]
theorem sc__law_by_hand_right : FnScope N__law_by_hand_right [] (defScope (top 32)) := ⟨rfl, rfl, rfl, by decide +kernel, rfl, by decide +kernel, by decide +kernel⟩
def f__law_by_hand_right : T → SR :=
  sSeq (sPar [0, 1] (sXCons (sCall den__law_words (sBCons (toB (frz (sC (.str [97, 32, 48, 59, 32, 98, 32, 48, 59, 32, 99, 32, 97, 32, 98])))) (sBNil))) (sXCons (sCall den__law_words (sBCons (toB (frz (sC (.str [97, 32, 48, 59, 32, 98, 32, 97, 59, 32, 99, 32, 97, 43, 98, 59, 32, 122, 32, 45])))) (sBNil))) (sXNil)))) (sSeq (sSet 2 (sLst (sCons (frz (sCall den_last_ones (sBCons (toB (frz (sVar 0))) (sBNil)))) (sCons (frz (sCall den_last_ones (sBCons (toB (frz (sVar 1))) (sBNil)))) (sCons (frz (sCall den_last_ones (sBCons (toB (frz (sTup (sNil)))) (sBNil)))) (sCons (frz (sCall den_last_ones (sBCons (toB (frz (sTup (sCons (frz (sTup (sCons (frz (sC (.str [97]))) (sCons (frz (sTup (sNil))) (sNil))))) (sNil))))) (sBNil)))) (sCons (frz (sCall den_last_ones (sBCons (toB (frz (sCall den__law_words (sBCons (toB (frz (sC (.str [97, 32, 48, 59, 32, 98, 32, 48, 59, 32, 99, 32, 48])))) (sBNil))))) (sBNil)))) (sNil)))))))) (sSeq (sSet 3 (sLst (sCons (frz (sTup (sCons (frz (sC (.str [97]))) (sCons (frz (sC (.str [98]))) (sCons (frz (sC (.str [99]))) (sNil)))))) (sCons (frz (sTup (sCons (frz (sC (.str [99]))) (sNil)))) (sCons (frz (sTup (sNil))) (sCons (frz (sTup (sNil))) (sCons (frz (sTup (sCons (frz (sC (.str [97]))) (sCons (frz (sC (.str [98]))) (sCons (frz (sC (.str [99]))) (sNil)))))) (sNil)))))))) (sSeq (sSet 2 (sOp2 gAdd (sRd 2) (toB (frz (sLst (sCons (frz (sCall den_lost_without (sBCons (toB (frz (sVar 0))) (sBCons (toB (frz (sTup (sCons (frz (sC (.str [97]))) (sNil))))) (sBNil))))) (sCons (frz (sCall den_lost_without (sBCons (toB (frz (sVar 0))) (sBCons (toB (frz (sTup (sCons (frz (sC (.str [97]))) (sCons (frz (sC (.str [98]))) (sNil)))))) (sBNil))))) (sCons (frz (sCall den_lost_without (sBCons (toB (frz (sVar 1))) (sBCons (toB (frz (sTup (sCons (frz (sC (.str [122]))) (sNil))))) (sBNil))))) (sCons (frz (sCall den_lost_without (sBCons (toB (frz (sVar 1))) (sBCons (toB (frz (sTup (sCons (frz (sC (.str [97]))) (sNil))))) (sBNil))))) (sCons (frz (sCall den_lost_without (sBCons (toB (frz (sVar 1))) (sBCons (toB (frz (sTup (sNil)))) (sBNil))))) (sNil))))))))))) (sSeq (sSet 3 (sOp2 gAdd (sRd 3) (toB (frz (sLst (sCons (frz (sTup (sCons (frz (sC (.str [97]))) (sNil)))) (sCons (frz (sTup (sCons (frz (sC (.str [97]))) (sCons (frz (sC (.str [98]))) (sCons (frz (sC (.str [99]))) (sNil)))))) (sCons (frz (sTup (sNil))) (sCons (frz (sTup (sCons (frz (sC (.str [97]))) (sCons (frz (sC (.str [98]))) (sCons (frz (sC (.str [99]))) (sNil)))))) (sCons (frz (sTup (sNil))) (sNil))))))))))) (sSeq (sSet 4 (sCall den__law_words (sBCons (toB (frz (sC (.str [97, 32, 48, 59, 32, 98, 32, 97, 59, 32, 99, 32, 98, 59, 32, 100, 32, 99, 32, 120, 59, 32, 101, 32, 99, 59, 32, 120, 32, 48])))) (sBNil)))) (sSeq (sSet 2 (sOp2 gAdd (sRd 2) (toB (frz (sLst (sCons (frz (sCall den_last_ones (sBCons (toB (frz (sVar 4))) (sBNil)))) (sCons (frz (sCall den_lost_without (sBCons (toB (frz (sVar 4))) (sBCons (toB (frz (sTup (sCons (frz (sC (.str [98]))) (sNil))))) (sBNil))))) (sCons (frz (sCall den_lost_without (sBCons (toB (frz (sVar 4))) (sBCons (toB (frz (sTup (sCons (frz (sC (.str [120]))) (sNil))))) (sBNil))))) (sCons (frz (sCall den_lost_without (sBCons (toB (frz (sVar 4))) (sBCons (toB (frz (sTup (sCons (frz (sC (.str [98]))) (sCons (frz (sC (.str [120]))) (sNil)))))) (sBNil))))) (sCons (frz (sCall den_lost_without (sBCons (toB (frz (sVar 4))) (sBCons (toB (frz (sTup (sCons (frz (sC (.str [101]))) (sNil))))) (sBNil))))) (sNil))))))))))) (sSeq (sSet 3 (sOp2 gAdd (sRd 3) (toB (frz (sLst (sCons (frz (sTup (sCons (frz (sC (.str [100]))) (sCons (frz (sC (.str [101]))) (sCons (frz (sC (.str [120]))) (sNil)))))) (sCons (frz (sTup (sCons (frz (sC (.str [98]))) (sCons (frz (sC (.str [99]))) (sCons (frz (sC (.str [101]))) (sNil)))))) (sCons (frz (sTup (sCons (frz (sC (.str [120]))) (sNil)))) (sCons (frz (sTup (sCons (frz (sC (.str [98]))) (sCons (frz (sC (.str [99]))) (sCons (frz (sC (.str [100]))) (sCons (frz (sC (.str [101]))) (sCons (frz (sC (.str [120]))) (sNil)))))))) (sCons (frz (sTup (sCons (frz (sC (.str [101]))) (sNil)))) (sNil))))))))))) (sSeq (sSet 2 (sOp2 gAdd (sRd 2) (toB (frz (sLst (sCons (frz (sCall den__law_heard (sBCons (toB (frz (sVar 0))) (sBCons (toB (frz (sTup (sCons (frz (sC (.str [113]))) (sCons (frz (sC (.str [122]))) (sNil)))))) (sBNil))))) (sCons (frz (sCall den__law_heard (sBCons (toB (frz (sVar 0))) (sBCons (toB (frz (sTup (sCons (frz (sC (.str [97]))) (sCons (frz (sC (.str [122]))) (sNil)))))) (sBNil))))) (sCons (frz (sCall den__law_heard (sBCons (toB (frz (sTup (sNil)))) (sBCons (toB (frz (sTup (sCons (frz (sC (.str [97]))) (sNil))))) (sBNil))))) (sCons (frz (sCall den__law_heard (sBCons (toB (frz (sVar 1))) (sBCons (toB (frz (sTup (sCons (frz (sC (.str [122]))) (sNil))))) (sBNil))))) (sNil)))))))))) (sSeq (sSet 3 (sOp2 gAdd (sRd 3) (toB (frz (sLst (sCons (frz (sLst (sCons (frz (sC (.str [113]))) (sCons (frz (sC (.bl true))) (sNil))))) (sCons (frz (sLst (sCons (frz (sC (.str [122]))) (sCons (frz (sC (.bl true))) (sNil))))) (sCons (frz (sLst (sCons (frz (sC (.str [97]))) (sCons (frz (sC (.bl true))) (sNil))))) (sCons (frz (sLst (sNil))) (sNil)))))))))) (sSeq (sSet 2 (sOp2 gAdd (sRd 2) (toB (frz (sLst (sCons (frz (sCall den_last_ones (sPick [0] (sBCons (toB (frz (sCall (den__law_lists 12) (sBCons (toB (frz (sVar 1))) (sBNil))))) (sBNil))))) (sCons (frz (sCall den_lost_without (sPick [1, 0] (sBCons (toB (frz (sLst (sCons (frz (sC (.str [97]))) (sCons (frz (sC (.str [98]))) (sNil)))))) (sBCons (toB (frz (sCall (den__law_lists 12) (sBCons (toB (frz (sVar 0))) (sBNil))))) (sBNil)))))) (sNil)))))))) (sSeq (sSet 3 (sOp2 gAdd (sRd 3) (toB (frz (sLst (sCons (frz (sTup (sCons (frz (sC (.str [99]))) (sNil)))) (sCons (frz (sTup (sCons (frz (sC (.str [97]))) (sCons (frz (sC (.str [98]))) (sCons (frz (sC (.str [99]))) (sNil)))))) (sNil)))))))) (sSeq (sSet 5 (sCall den__law_words (sBCons (toB (frz (sC (.str [97, 32, 48, 59, 32, 98, 32, 48, 59, 32, 99, 32, 48, 59, 32, 100, 32, 48, 59, 32, 101, 32, 48, 59, 32, 102, 32, 48, 59, 32, 103, 32, 48, 59, 32, 104, 32, 97, 43, 98, 43, 99, 32, 100, 43, 101, 32, 97, 43, 98, 43, 102, 43, 103])))) (sBNil)))) (sSeq (sSet 2 (sOp2 gAdd (sRd 2) (toB (frz (sLst (sCons (frz (sCall den_last_ones (sBCons (toB (frz (sVar 5))) (sBNil)))) (sCons (frz (sCall den_lost_without (sBCons (toB (frz (sVar 5))) (sBCons (toB (frz (sTup (sCons (frz (sC (.str [97]))) (sCons (frz (sC (.str [100]))) (sNil)))))) (sBNil))))) (sCons (frz (sCall den_lost_without (sBCons (toB (frz (sVar 5))) (sBCons (toB (frz (sTup (sCons (frz (sC (.str [97]))) (sCons (frz (sC (.str [98]))) (sNil)))))) (sBNil))))) (sNil))))))))) (sRet (sCall (den__law_same 12) (sBCons (toB (frz (sVar 2))) (sBCons (toB (frz (sOp2 gAdd (sRd 3) (toB (frz (sLst (sCons (frz (sCB (g1 gTuple) (sBCons (toB (frz (sC (.str [97, 98, 99, 100, 101, 102, 103, 104])))) (sBNil)))) (sCons (frz (sTup (sCons (frz (sC (.str [97]))) (sCons (frz (sC (.str [100]))) (sCons (frz (sC (.str [104]))) (sNil)))))) (sCons (frz (sTup (sCons (frz (sC (.str [97]))) (sCons (frz (sC (.str [98]))) (sNil))))) (sNil)))))))))) (sBNil))))))))))))))))))
def den__law_by_hand_right : List Sl → DR := run 6 f__law_by_hand_right
theorem ok__law_by_hand_right (B : Blt mg) (B2 : B2s mg) (XK : xAll xcs K = true) (XG : ∀ c ∈ xcs, mg (xName c) = some (.ref (xC K c))) (GC : GCs mg) (XR_0 : XRs P w K mg base 0 "name") (D__law_by_hand_right : DefOk K mg "_law_by_hand_right" (top 32) []) (C__law_words : Callee P w K mg base (pxK K) "_law_words" (defArgs (top 30)) ["_law_text"] 1 den__law_words) (C_last_ones : Callee P w K mg base (pxK K) "last_ones" (defArgs (top 16)) ["book"] 17 den_last_ones) (C_lost_without : Callee P w K mg base (pxK K) "lost_without" (defArgs (top 17)) ["book", "some"] 17 den_lost_without) (C__law_heard : Callee P w K mg base (pxK K) "_law_heard" (defArgs (top 31)) ["_law_tome", "_law_lot_so"] 18 den__law_heard) (C__law_lists : Callee P w K mg base (pxK K) "_law_lists" (defArgs (top 24)) ["_law_matter"] 12 (den__law_lists 12)) (C__law_same : Callee P w K mg base (pxK K) "_law_same" (defArgs (top 23)) ["_law_got", "_law_goal"] 12 (den__law_same 12)) : Callee P w K mg base (pxK K) "_law_by_hand_right" (defArgs (top 32)) [] 19 den__law_by_hand_right := by
  have scN := sc__law_by_hand_right
  refine callee (k := 18) (m := 6) (g := f__law_by_hand_right) D__law_by_hand_right sc__law_by_hand_right rfl fun f cdv A outer s H E hr tk po => ?_
  have hu64 := hr.units
  have hu65 : (A.deeper (envOfC "_law_by_hand_right" (defScope (top 32)) s.heap.objs.size f cdv)).units + 65 < cLine := by have := hr.un; omega
  have hu1 : (A.deeper (envOfC "_law_by_hand_right" (defScope (top 32)) s.heap.objs.size f cdv)).units + 1 < cLine := by have := hr.un; omega
  exact jss_cons (js_par (is := [0, 1]) (xs := ["_law_either", "_law_chain"]) rfl scN.nd rfl (by kernel_rfl) (by decide) (jax_cons (jx_own C__law_words (hr.mono (by decide)) tk rfl (jab_cons (JE.b (JX.frz (jx_strE (by decide +kernel)))) (jab_nil) rfl) (blS bl0) (by decide) rfl rfl) (jax_cons (jx_own C__law_words (hr.mono (by decide)) tk rfl (jab_cons (JE.b (JX.frz (jx_strE (by decide +kernel)))) (jab_nil) rfl) (blS bl0) (by decide) rfl rfl) (jax_nil) rfl) rfl) rfl rfl)
      (jss_cons (js_asg (ps_set (i := 2) scN.nd rfl (by first | exact Or.inl rfl | exact Or.inr rfl) (jx_lst (ja_cons (JX.frz (jx_own C_last_ones (hr.mono (by decide)) tk rfl (jab_cons (JE.b (JX.frz (jx_var (pv 0)))) (jab_nil) rfl) (blS bl0) (by decide) rfl rfl)) (ja_cons (JX.frz (jx_own C_last_ones (hr.mono (by decide)) tk rfl (jab_cons (JE.b (JX.frz (jx_var (pv 1)))) (jab_nil) rfl) (blS bl0) (by decide) rfl rfl)) (ja_cons (JX.frz (jx_own C_last_ones (hr.mono (by decide)) tk rfl (jab_cons (JE.b (JX.frz (jx_tup (ja_nil)))) (jab_nil) rfl) (blS bl0) (by decide) rfl rfl)) (ja_cons (JX.frz (jx_own C_last_ones (hr.mono (by decide)) tk rfl (jab_cons (JE.b (JX.frz (jx_tup (ja_cons (JX.frz (jx_tup (ja_cons (JX.frz (jx_strE (by decide +kernel))) (ja_cons (JX.frz (jx_tup (ja_nil))) (ja_nil) rfl) rfl))) (ja_nil) rfl)))) (jab_nil) rfl) (blS bl0) (by decide) rfl rfl)) (ja_cons (JX.frz (jx_own C_last_ones (hr.mono (by decide)) tk rfl (jab_cons (JE.b (JX.frz (jx_own C__law_words (hr.mono (by decide)) tk rfl (jab_cons (JE.b (JX.frz (jx_strE (by decide +kernel)))) (jab_nil) rfl) (blS bl0) (by decide) rfl rfl))) (jab_nil) rfl) (blS bl0) (by decide) rfl rfl)) (ja_nil) rfl) rfl) rfl) rfl) rfl)) (by first | rfl | exact sw_false_name | decide)) (fun _ _ _ h => h))
      (jss_cons (js_asg (ps_set (i := 3) scN.nd rfl (by first | exact Or.inl rfl | exact Or.inr rfl) (jx_lst (ja_cons (JX.frz (jx_tup (ja_cons (JX.frz (jx_strE (by decide +kernel))) (ja_cons (JX.frz (jx_strE (by decide +kernel))) (ja_cons (JX.frz (jx_strE (by decide +kernel))) (ja_nil) rfl) rfl) rfl))) (ja_cons (JX.frz (jx_tup (ja_cons (JX.frz (jx_strE (by decide +kernel))) (ja_nil) rfl))) (ja_cons (JX.frz (jx_tup (ja_nil))) (ja_cons (JX.frz (jx_tup (ja_nil))) (ja_cons (JX.frz (jx_tup (ja_cons (JX.frz (jx_strE (by decide +kernel))) (ja_cons (JX.frz (jx_strE (by decide +kernel))) (ja_cons (JX.frz (jx_strE (by decide +kernel))) (ja_nil) rfl) rfl) rfl))) (ja_nil) rfl) rfl) rfl) rfl) rfl)) (by first | rfl | exact sw_false_name | decide)) (fun _ _ _ h => h))
      (jss_cons (js_asg (ps_set (i := 2) scN.nd rfl (by first | exact Or.inl rfl | exact Or.inr rfl) (jx_bin op_addU (jb_rd (pv 2)) (JE.b (JX.frz (jx_lst (ja_cons (JX.frz (jx_own C_lost_without (hr.mono (by decide)) tk rfl (jab_cons (JE.b (JX.frz (jx_var (pv 0)))) (jab_cons (JE.b (JX.frz (jx_tup (ja_cons (JX.frz (jx_strE (by decide +kernel))) (ja_nil) rfl)))) (jab_nil) rfl) rfl) (blS (blS bl0)) (by decide) rfl rfl)) (ja_cons (JX.frz (jx_own C_lost_without (hr.mono (by decide)) tk rfl (jab_cons (JE.b (JX.frz (jx_var (pv 0)))) (jab_cons (JE.b (JX.frz (jx_tup (ja_cons (JX.frz (jx_strE (by decide +kernel))) (ja_cons (JX.frz (jx_strE (by decide +kernel))) (ja_nil) rfl) rfl)))) (jab_nil) rfl) rfl) (blS (blS bl0)) (by decide) rfl rfl)) (ja_cons (JX.frz (jx_own C_lost_without (hr.mono (by decide)) tk rfl (jab_cons (JE.b (JX.frz (jx_var (pv 1)))) (jab_cons (JE.b (JX.frz (jx_tup (ja_cons (JX.frz (jx_strE (by decide +kernel))) (ja_nil) rfl)))) (jab_nil) rfl) rfl) (blS (blS bl0)) (by decide) rfl rfl)) (ja_cons (JX.frz (jx_own C_lost_without (hr.mono (by decide)) tk rfl (jab_cons (JE.b (JX.frz (jx_var (pv 1)))) (jab_cons (JE.b (JX.frz (jx_tup (ja_cons (JX.frz (jx_strE (by decide +kernel))) (ja_nil) rfl)))) (jab_nil) rfl) rfl) (blS (blS bl0)) (by decide) rfl rfl)) (ja_cons (JX.frz (jx_own C_lost_without (hr.mono (by decide)) tk rfl (jab_cons (JE.b (JX.frz (jx_var (pv 1)))) (jab_cons (JE.b (JX.frz (jx_tup (ja_nil)))) (jab_nil) rfl) rfl) (blS (blS bl0)) (by decide) rfl rfl)) (ja_nil) rfl) rfl) rfl) rfl) rfl))))) (by first | rfl | exact sw_false_name | decide)) (fun _ _ _ h => h))
      (jss_cons (js_asg (ps_set (i := 3) scN.nd rfl (by first | exact Or.inl rfl | exact Or.inr rfl) (jx_bin op_addU (jb_rd (pv 3)) (JE.b (JX.frz (jx_lst (ja_cons (JX.frz (jx_tup (ja_cons (JX.frz (jx_strE (by decide +kernel))) (ja_nil) rfl))) (ja_cons (JX.frz (jx_tup (ja_cons (JX.frz (jx_strE (by decide +kernel))) (ja_cons (JX.frz (jx_strE (by decide +kernel))) (ja_cons (JX.frz (jx_strE (by decide +kernel))) (ja_nil) rfl) rfl) rfl))) (ja_cons (JX.frz (jx_tup (ja_nil))) (ja_cons (JX.frz (jx_tup (ja_cons (JX.frz (jx_strE (by decide +kernel))) (ja_cons (JX.frz (jx_strE (by decide +kernel))) (ja_cons (JX.frz (jx_strE (by decide +kernel))) (ja_nil) rfl) rfl) rfl))) (ja_cons (JX.frz (jx_tup (ja_nil))) (ja_nil) rfl) rfl) rfl) rfl) rfl))))) (by first | rfl | exact sw_false_name | decide)) (fun _ _ _ h => h))
      (jss_cons (js_asg (ps_set (i := 4) scN.nd rfl (by first | exact Or.inl rfl | exact Or.inr rfl) (jx_own C__law_words (hr.mono (by decide)) tk rfl (jab_cons (JE.b (JX.frz (jx_strE (by decide +kernel)))) (jab_nil) rfl) (blS bl0) (by decide) rfl rfl) (by first | rfl | exact sw_false_name | decide)) (fun _ _ _ h => h))
      (jss_cons (js_asg (ps_set (i := 2) scN.nd rfl (by first | exact Or.inl rfl | exact Or.inr rfl) (jx_bin op_addU (jb_rd (pv 2)) (JE.b (JX.frz (jx_lst (ja_cons (JX.frz (jx_own C_last_ones (hr.mono (by decide)) tk rfl (jab_cons (JE.b (JX.frz (jx_var (pv 4)))) (jab_nil) rfl) (blS bl0) (by decide) rfl rfl)) (ja_cons (JX.frz (jx_own C_lost_without (hr.mono (by decide)) tk rfl (jab_cons (JE.b (JX.frz (jx_var (pv 4)))) (jab_cons (JE.b (JX.frz (jx_tup (ja_cons (JX.frz (jx_strE (by decide +kernel))) (ja_nil) rfl)))) (jab_nil) rfl) rfl) (blS (blS bl0)) (by decide) rfl rfl)) (ja_cons (JX.frz (jx_own C_lost_without (hr.mono (by decide)) tk rfl (jab_cons (JE.b (JX.frz (jx_var (pv 4)))) (jab_cons (JE.b (JX.frz (jx_tup (ja_cons (JX.frz (jx_strE (by decide +kernel))) (ja_nil) rfl)))) (jab_nil) rfl) rfl) (blS (blS bl0)) (by decide) rfl rfl)) (ja_cons (JX.frz (jx_own C_lost_without (hr.mono (by decide)) tk rfl (jab_cons (JE.b (JX.frz (jx_var (pv 4)))) (jab_cons (JE.b (JX.frz (jx_tup (ja_cons (JX.frz (jx_strE (by decide +kernel))) (ja_cons (JX.frz (jx_strE (by decide +kernel))) (ja_nil) rfl) rfl)))) (jab_nil) rfl) rfl) (blS (blS bl0)) (by decide) rfl rfl)) (ja_cons (JX.frz (jx_own C_lost_without (hr.mono (by decide)) tk rfl (jab_cons (JE.b (JX.frz (jx_var (pv 4)))) (jab_cons (JE.b (JX.frz (jx_tup (ja_cons (JX.frz (jx_strE (by decide +kernel))) (ja_nil) rfl)))) (jab_nil) rfl) rfl) (blS (blS bl0)) (by decide) rfl rfl)) (ja_nil) rfl) rfl) rfl) rfl) rfl))))) (by first | rfl | exact sw_false_name | decide)) (fun _ _ _ h => h))
      (jss_cons (js_asg (ps_set (i := 3) scN.nd rfl (by first | exact Or.inl rfl | exact Or.inr rfl) (jx_bin op_addU (jb_rd (pv 3)) (JE.b (JX.frz (jx_lst (ja_cons (JX.frz (jx_tup (ja_cons (JX.frz (jx_strE (by decide +kernel))) (ja_cons (JX.frz (jx_strE (by decide +kernel))) (ja_cons (JX.frz (jx_strE (by decide +kernel))) (ja_nil) rfl) rfl) rfl))) (ja_cons (JX.frz (jx_tup (ja_cons (JX.frz (jx_strE (by decide +kernel))) (ja_cons (JX.frz (jx_strE (by decide +kernel))) (ja_cons (JX.frz (jx_strE (by decide +kernel))) (ja_nil) rfl) rfl) rfl))) (ja_cons (JX.frz (jx_tup (ja_cons (JX.frz (jx_strE (by decide +kernel))) (ja_nil) rfl))) (ja_cons (JX.frz (jx_tup (ja_cons (JX.frz (jx_strE (by decide +kernel))) (ja_cons (JX.frz (jx_strE (by decide +kernel))) (ja_cons (JX.frz (jx_strE (by decide +kernel))) (ja_cons (JX.frz (jx_strE (by decide +kernel))) (ja_cons (JX.frz (jx_strE (by decide +kernel))) (ja_nil) rfl) rfl) rfl) rfl) rfl))) (ja_cons (JX.frz (jx_tup (ja_cons (JX.frz (jx_strE (by decide +kernel))) (ja_nil) rfl))) (ja_nil) rfl) rfl) rfl) rfl) rfl))))) (by first | rfl | exact sw_false_name | decide)) (fun _ _ _ h => h))
      (jss_cons (js_asg (ps_set (i := 2) scN.nd rfl (by first | exact Or.inl rfl | exact Or.inr rfl) (jx_bin op_addU (jb_rd (pv 2)) (JE.b (JX.frz (jx_lst (ja_cons (JX.frz (jx_own C__law_heard (hr.mono (by decide)) tk rfl (jab_cons (JE.b (JX.frz (jx_var (pv 0)))) (jab_cons (JE.b (JX.frz (jx_tup (ja_cons (JX.frz (jx_strE (by decide +kernel))) (ja_cons (JX.frz (jx_strE (by decide +kernel))) (ja_nil) rfl) rfl)))) (jab_nil) rfl) rfl) (blS (blS bl0)) (by decide) rfl rfl)) (ja_cons (JX.frz (jx_own C__law_heard (hr.mono (by decide)) tk rfl (jab_cons (JE.b (JX.frz (jx_var (pv 0)))) (jab_cons (JE.b (JX.frz (jx_tup (ja_cons (JX.frz (jx_strE (by decide +kernel))) (ja_cons (JX.frz (jx_strE (by decide +kernel))) (ja_nil) rfl) rfl)))) (jab_nil) rfl) rfl) (blS (blS bl0)) (by decide) rfl rfl)) (ja_cons (JX.frz (jx_own C__law_heard (hr.mono (by decide)) tk rfl (jab_cons (JE.b (JX.frz (jx_tup (ja_nil)))) (jab_cons (JE.b (JX.frz (jx_tup (ja_cons (JX.frz (jx_strE (by decide +kernel))) (ja_nil) rfl)))) (jab_nil) rfl) rfl) (blS (blS bl0)) (by decide) rfl rfl)) (ja_cons (JX.frz (jx_own C__law_heard (hr.mono (by decide)) tk rfl (jab_cons (JE.b (JX.frz (jx_var (pv 1)))) (jab_cons (JE.b (JX.frz (jx_tup (ja_cons (JX.frz (jx_strE (by decide +kernel))) (ja_nil) rfl)))) (jab_nil) rfl) rfl) (blS (blS bl0)) (by decide) rfl rfl)) (ja_nil) rfl) rfl) rfl) rfl))))) (by first | rfl | exact sw_false_name | decide)) (fun _ _ _ h => h))
      (jss_cons (js_asg (ps_set (i := 3) scN.nd rfl (by first | exact Or.inl rfl | exact Or.inr rfl) (jx_bin op_addU (jb_rd (pv 3)) (JE.b (JX.frz (jx_lst (ja_cons (JX.frz (jx_lst (ja_cons (JX.frz (jx_strE (by decide +kernel))) (ja_cons (JX.frz (jx_bl)) (ja_nil) rfl) rfl))) (ja_cons (JX.frz (jx_lst (ja_cons (JX.frz (jx_strE (by decide +kernel))) (ja_cons (JX.frz (jx_bl)) (ja_nil) rfl) rfl))) (ja_cons (JX.frz (jx_lst (ja_cons (JX.frz (jx_strE (by decide +kernel))) (ja_cons (JX.frz (jx_bl)) (ja_nil) rfl) rfl))) (ja_cons (JX.frz (jx_lst (ja_nil))) (ja_nil) rfl) rfl) rfl) rfl))))) (by first | rfl | exact sw_false_name | decide)) (fun _ _ _ h => h))
      (jss_cons (js_asg (ps_set (i := 2) scN.nd rfl (by first | exact Or.inl rfl | exact Or.inr rfl) (jx_bin op_addU (jb_rd (pv 2)) (JE.b (JX.frz (jx_lst (ja_cons (JX.frz (jx_ownK (ks := ["book"]) (is := [0]) (m := 1) C_last_ones (hr.mono (by decide)) tk rfl (jk_cons (JE.b (JX.frz (jx_own C__law_lists (hr.mono (by decide)) tk rfl (jab_cons (JE.b (JX.frz (jx_var (pv 1)))) (jab_nil) rfl) (blS bl0) (by decide) rfl rfl))) (jk_nil)) (fun _ _ _ _ _ _ _ _ _ ws hl => match ws, hl with | [_], _ => rfl) rfl (blS bl0) (blP (blS bl0) fun bs hl => match bs, hl with | [_], _ => rfl) rfl rfl (by decide) rfl)) (ja_cons (JX.frz (jx_ownK (ks := ["some", "book"]) (is := [1, 0]) (m := 2) C_lost_without (hr.mono (by decide)) tk rfl (jk_cons (JE.b (JX.frz (jx_lst (ja_cons (JX.frz (jx_strE (by decide +kernel))) (ja_cons (JX.frz (jx_strE (by decide +kernel))) (ja_nil) rfl) rfl)))) (jk_cons (JE.b (JX.frz (jx_own C__law_lists (hr.mono (by decide)) tk rfl (jab_cons (JE.b (JX.frz (jx_var (pv 0)))) (jab_nil) rfl) (blS bl0) (by decide) rfl rfl))) (jk_nil))) (fun _ _ _ _ _ _ _ _ _ ws hl => match ws, hl with | [_, _], _ => rfl) rfl (blS (blS bl0)) (blP (blS (blS bl0)) fun bs hl => match bs, hl with | [_, _], _ => rfl) rfl rfl (by decide) rfl)) (ja_nil) rfl) rfl))))) (by first | rfl | exact sw_false_name | decide)) (fun _ _ _ h => h))
      (jss_cons (js_asg (ps_set (i := 3) scN.nd rfl (by first | exact Or.inl rfl | exact Or.inr rfl) (jx_bin op_addU (jb_rd (pv 3)) (JE.b (JX.frz (jx_lst (ja_cons (JX.frz (jx_tup (ja_cons (JX.frz (jx_strE (by decide +kernel))) (ja_nil) rfl))) (ja_cons (JX.frz (jx_tup (ja_cons (JX.frz (jx_strE (by decide +kernel))) (ja_cons (JX.frz (jx_strE (by decide +kernel))) (ja_cons (JX.frz (jx_strE (by decide +kernel))) (ja_nil) rfl) rfl) rfl))) (ja_nil) rfl) rfl))))) (by first | rfl | exact sw_false_name | decide)) (fun _ _ _ h => h))
      (jss_cons (js_asg (ps_set (i := 5) scN.nd rfl (by first | exact Or.inl rfl | exact Or.inr rfl) (jx_own C__law_words (hr.mono (by decide)) tk rfl (jab_cons (JE.b (JX.frz (jx_strE (by decide +kernel)))) (jab_nil) rfl) (blS bl0) (by decide) rfl rfl) (by first | rfl | exact sw_false_name | decide)) (fun _ _ _ h => h))
      (jss_cons (js_asg (ps_set (i := 2) scN.nd rfl (by first | exact Or.inl rfl | exact Or.inr rfl) (jx_bin op_addU (jb_rd (pv 2)) (JE.b (JX.frz (jx_lst (ja_cons (JX.frz (jx_own C_last_ones (hr.mono (by decide)) tk rfl (jab_cons (JE.b (JX.frz (jx_var (pv 5)))) (jab_nil) rfl) (blS bl0) (by decide) rfl rfl)) (ja_cons (JX.frz (jx_own C_lost_without (hr.mono (by decide)) tk rfl (jab_cons (JE.b (JX.frz (jx_var (pv 5)))) (jab_cons (JE.b (JX.frz (jx_tup (ja_cons (JX.frz (jx_strE (by decide +kernel))) (ja_cons (JX.frz (jx_strE (by decide +kernel))) (ja_nil) rfl) rfl)))) (jab_nil) rfl) rfl) (blS (blS bl0)) (by decide) rfl rfl)) (ja_cons (JX.frz (jx_own C_lost_without (hr.mono (by decide)) tk rfl (jab_cons (JE.b (JX.frz (jx_var (pv 5)))) (jab_cons (JE.b (JX.frz (jx_tup (ja_cons (JX.frz (jx_strE (by decide +kernel))) (ja_cons (JX.frz (jx_strE (by decide +kernel))) (ja_nil) rfl) rfl)))) (jab_nil) rfl) rfl) (blS (blS bl0)) (by decide) rfl rfl)) (ja_nil) rfl) rfl) rfl))))) (by first | rfl | exact sw_false_name | decide)) (fun _ _ _ h => h))
      (jss_one (js_ret (jx_own C__law_same (hr.mono (by decide)) tk rfl (jab_cons (JE.b (JX.frz (jx_var (pv 2)))) (jab_cons (JE.b (JX.frz (jx_bin op_addU (jb_rd (pv 3)) (JE.b (JX.frz (jx_lst (ja_cons (JX.frz (jx_callTy (cr_tupleU rfl) rfl B.tuple boot_tuple (jab_cons (JE.b (JX.frz (jx_strE (by decide +kernel)))) (jab_nil) rfl) (by decide) (by decide) rfl rfl)) (ja_cons (JX.frz (jx_tup (ja_cons (JX.frz (jx_strE (by decide +kernel))) (ja_cons (JX.frz (jx_strE (by decide +kernel))) (ja_cons (JX.frz (jx_strE (by decide +kernel))) (ja_nil) rfl) rfl) rfl))) (ja_cons (JX.frz (jx_tup (ja_cons (JX.frz (jx_strE (by decide +kernel))) (ja_cons (JX.frz (jx_strE (by decide +kernel))) (ja_nil) rfl) rfl))) (ja_nil) rfl) rfl) rfl))))))) (jab_nil) rfl) rfl) (blS (blS bl0)) (by decide) rfl rfl))))))))))))))))
/-! _law_right -/
def N__law_right : List Str := ["_law_urn", "_law_turn", "_law_tome", "_law_turns_so", "_law_due", "_law_lot", "_law_kept", "_law_own", "_law_wants"]
theorem sc__law_right : FnScope N__law_right ["_law_urn"] (defScope (top 33)) := ⟨rfl, rfl, rfl, by decide +kernel, rfl, by decide +kernel, by decide +kernel⟩
def f__law_right : T → SR :=
  sSeq (sFor (sRng1 (sCons (frz (sC (.int 8))) (sNil))) (gNm 1) (sSeq (sSet 2 (sCall den__law_book (sBCons (sRd 0) (sBCons (toB (frz (sC (.int 5)))) (sBNil))))) (sSeq (sSet 3 (sCall den__law_orders (sBCons (toB (frz (sVar 2))) (sBNil)))) (sSeq (sSet 4 (sCB (g1 gTuple) (sBCons (toB (frz (sCB (g1 gSS) (sBCons (toB (frz (sLc (sItems (frz (sVar 3))) (gNm 7) (sTB (sOp2 (gEq true) (sRd 7) (toB (frz (sTup (sNil)))))) (frz (sOp2 gIx (sRd 7) (toB (frz (sNeg (frz (sC (.int 1)))))))) [7]))) (sBNil))))) (sBNil)))) (sSeq (sIfS (sNot (sTru (toB (frz (sCall (den__law_same 12) (sBCons (toB (frz (sLst (sCons (frz (sCall den_last_ones (sBCons (toB (frz (sVar 2))) (sBNil)))) (sCons (frz (sCall den_last_ones (sBCons (toB (frz (sCall (den__law_lists 12) (sBCons (toB (frz (sVar 2))) (sBNil))))) (sBNil)))) (sNil)))))) (sBCons (toB (frz (sLst (sCons (frz (sVar 4)) (sCons (frz (sVar 4)) (sNil)))))) (sBNil)))))))) (sRet (sC (.bl false))) (sNext)) (sFzS [2] (sFor (sItems (frz (sCall den__law_subsets (sBCons (toB (frz (sLc (sItems (frz (sVar 2))) (gTp 2 (gN1 (gNm 7) (gN1 (gNm 8) (gN0)))) (fun τ => .ok true τ) (frz (sVar 7)) [7, 8]))) (sBNil))))) (gNm 5) (sSeq (sSet 6 (sOp2 gIx (toB (frz (sCall den__law_orders (sBCons (toB (frz (sCB (g1 gTuple) (sBCons (toB (frz (sLc (sItems (frz (sVar 2))) (gTp 2 (gN1 (gNm 7) (gN1 (gNm 8) (gN0)))) (fun τ => .ok true τ) (frz (sTup (sCons (frz (sVar 7)) (sCons (frz (sIte (sTB (sOp2 (gIn true) (sRd 7) (sRd 5))) (sVar 8) (sTup (sNil)))) (sNil))))) [7, 8]))) (sBNil))))) (sBNil))))) (toB (frz (sC (.int 0)))))) (sSeq (sSet 4 (sCB (g1 gTuple) (sBCons (toB (frz (sLc (sItems (frz (sCB (g1 gSorted) (sBCons (toB (frz (sOp2 gIx (sRd 3) (toB (frz (sC (.int 0))))))) (sBNil))))) (gNm 7) (sTB (sOp2 (gIn true) (sRd 7) (sRd 6))) (frz (sVar 7)) [7]))) (sBNil)))) (sIfS (sNot (sTru (toB (frz (sCall (den__law_same 12) (sBCons (toB (frz (sLst (sCons (frz (sCall den_lost_without (sBCons (toB (frz (sVar 2))) (sBCons (toB (frz (sVar 5))) (sBNil))))) (sCons (frz (sCall den_lost_without (sBCons (toB (frz (sCall (den__law_lists 12) (sBCons (toB (frz (sVar 2))) (sBNil))))) (sBCons (toB (frz (sCB (g1 gList) (sBCons (sRd 5) (sBNil))))) (sBNil))))) (sNil)))))) (sBCons (toB (frz (sLst (sCons (frz (sVar 4)) (sCons (frz (sVar 4)) (sNil)))))) (sBNil)))))))) (sRet (sC (.bl false))) (sNext))))))))))) (sRet (sC (.bl true)))
def den__law_right : List Sl → DR := run 8 f__law_right
def c0__law_right : D → T → Rs (Option D) :=
  turnC (gNm 7) (sTB (sOp2 (gEq true) (sRd 7) (toB (frz (sTup (sNil)))))) (frz (sOp2 gIx (sRd 7) (toB (frz (sNeg (frz (sC (.int 1)))))))) [7]
def c1__law_right : D → T → Rs (Option D) :=
  turnC (gTp 2 (gN1 (gNm 7) (gN1 (gNm 8) (gN0)))) (fun τ => .ok true τ) (frz (sVar 7)) [7, 8]
def c2__law_right : D → T → Rs (Option D) :=
  turnC (gTp 2 (gN1 (gNm 7) (gN1 (gNm 8) (gN0)))) (fun τ => .ok true τ) (frz (sTup (sCons (frz (sVar 7)) (sCons (frz (sIte (sTB (sOp2 (gIn true) (sRd 7) (sRd 5))) (sVar 8) (sTup (sNil)))) (sNil))))) [7, 8]
def c3__law_right : D → T → Rs (Option D) :=
  turnC (gNm 7) (sTB (sOp2 (gIn true) (sRd 7) (sRd 6))) (frz (sVar 7)) [7]
def b0__law_right : D → T → SR :=
  sBody (gNm 5) (sSeq (sSet 6 (sOp2 gIx (toB (frz (sCall den__law_orders (sBCons (toB (frz (sCB (g1 gTuple) (sBCons (toB (frz (sLcB (sItems (frz (sVar 2))) c2__law_right [7, 8]))) (sBNil))))) (sBNil))))) (toB (frz (sC (.int 0)))))) (sSeq (sSet 4 (sCB (g1 gTuple) (sBCons (toB (frz (sLcB (sItems (frz (sCB (g1 gSorted) (sBCons (toB (frz (sOp2 gIx (sRd 3) (toB (frz (sC (.int 0))))))) (sBNil))))) c3__law_right [7]))) (sBNil)))) (sIfS (sNot (sTru (toB (frz (sCall (den__law_same 12) (sBCons (toB (frz (sLst (sCons (frz (sCall den_lost_without (sBCons (toB (frz (sVar 2))) (sBCons (toB (frz (sVar 5))) (sBNil))))) (sCons (frz (sCall den_lost_without (sBCons (toB (frz (sCall (den__law_lists 12) (sBCons (toB (frz (sVar 2))) (sBNil))))) (sBCons (toB (frz (sCB (g1 gList) (sBCons (sRd 5) (sBNil))))) (sBNil))))) (sNil)))))) (sBCons (toB (frz (sLst (sCons (frz (sVar 4)) (sCons (frz (sVar 4)) (sNil)))))) (sBNil)))))))) (sRet (sC (.bl false))) (sNext))))
def b1__law_right : D → T → SR :=
  sBody (gNm 1) (sSeq (sSet 2 (sCall den__law_book (sBCons (sRd 0) (sBCons (toB (frz (sC (.int 5)))) (sBNil))))) (sSeq (sSet 3 (sCall den__law_orders (sBCons (toB (frz (sVar 2))) (sBNil)))) (sSeq (sSet 4 (sCB (g1 gTuple) (sBCons (toB (frz (sCB (g1 gSS) (sBCons (toB (frz (sLcB (sItems (frz (sVar 3))) c0__law_right [7]))) (sBNil))))) (sBNil)))) (sSeq (sIfS (sNot (sTru (toB (frz (sCall (den__law_same 12) (sBCons (toB (frz (sLst (sCons (frz (sCall den_last_ones (sBCons (toB (frz (sVar 2))) (sBNil)))) (sCons (frz (sCall den_last_ones (sBCons (toB (frz (sCall (den__law_lists 12) (sBCons (toB (frz (sVar 2))) (sBNil))))) (sBNil)))) (sNil)))))) (sBCons (toB (frz (sLst (sCons (frz (sVar 4)) (sCons (frz (sVar 4)) (sNil)))))) (sBNil)))))))) (sRet (sC (.bl false))) (sNext)) (sFzS [2] (sForB (sItems (frz (sCall den__law_subsets (sBCons (toB (frz (sLcB (sItems (frz (sVar 2))) c1__law_right [7, 8]))) (sBNil))))) b0__law_right))))))
theorem nE__law_right : f__law_right = (sSeq (sForB (sRng1 (sCons (frz (sC (.int 8))) (sNil))) b1__law_right) (sRet (sC (.bl true)))) := rfl
theorem ok__law_right (B : Blt mg) (B2 : B2s mg) (XK : xAll xcs K = true) (XG : ∀ c ∈ xcs, mg (xName c) = some (.ref (xC K c))) (GC : GCs mg) (XR_0 : XRs P w K mg base 0 "name") (D__law_right : DefOk K mg "_law_right" (top 33) ["_law_urn"]) (C__law_book : Callee P w K mg base (pxK K) "_law_book" (defArgs (top 29)) ["_law_urn", "_law_most"] 4 den__law_book) (C__law_orders : Callee P w K mg base (pxK K) "_law_orders" (defArgs (top 27)) ["_law_tome"] 2 den__law_orders) (C__law_same : Callee P w K mg base (pxK K) "_law_same" (defArgs (top 23)) ["_law_got", "_law_goal"] 12 (den__law_same 12)) (C_last_ones : Callee P w K mg base (pxK K) "last_ones" (defArgs (top 16)) ["book"] 17 den_last_ones) (C__law_lists : Callee P w K mg base (pxK K) "_law_lists" (defArgs (top 24)) ["_law_matter"] 12 (den__law_lists 12)) (C__law_subsets : Callee P w K mg base (pxK K) "_law_subsets" (defArgs (top 28)) ["_law_names_so"] 1 den__law_subsets) (C_lost_without : Callee P w K mg base (pxK K) "lost_without" (defArgs (top 17)) ["book", "some"] 17 den_lost_without) : Callee P w K mg base (pxK K) "_law_right" (defArgs (top 33)) ["_law_urn"] 18 den__law_right := by
  have scN := sc__law_right
  refine callee (k := 17) (m := 8) (g := f__law_right) D__law_right sc__law_right rfl fun f cdv A outer s H E hr tk po => ?_
  have hu64 := hr.units
  have hu65 : (A.deeper (envOfC "_law_right" (defScope (top 33)) s.heap.objs.size f cdv)).units + 65 < cLine := by have := hr.un; omega
  have hu1 : (A.deeper (envOfC "_law_right" (defScope (top 33)) s.heap.objs.size f cdv)).units + 1 < cLine := by have := hr.un; omega
  exact jss_cons (js_for (gs := [1]) po rfl (ji_range1 rfl B.range (ja_cons (JX.frz (jx_int)) (ja_nil) rfl) rfl) (jg_name (pg_name (i := 1) scN.nd rfl (by first | exact Or.inl rfl | exact Or.inr rfl)) (by decide)) (jss_cons (js_asg (ps_set (i := 2) scN.nd rfl (by first | exact Or.inl rfl | exact Or.inr rfl) (jx_own C__law_book (hr.mono (by decide)) tk rfl (jab_cons (jb_rd (pv 0)) (jab_cons (JE.b (JX.frz (jx_int))) (jab_nil) rfl) rfl) (blS (blS bl0)) (by decide) rfl rfl) (by first | rfl | exact sw_false_name | decide)) (fun _ _ _ h => h))
      (jss_cons (js_asg (ps_set (i := 3) scN.nd rfl (by first | exact Or.inl rfl | exact Or.inr rfl) (jx_own C__law_orders (hr.mono (by decide)) tk rfl (jab_cons (JE.b (JX.frz (jx_var (pv 2)))) (jab_nil) rfl) (blS bl0) (by decide) rfl rfl) (by first | rfl | exact sw_false_name | decide)) (fun _ _ _ h => h))
      (jss_cons (js_asg (ps_set (i := 4) scN.nd rfl (by first | exact Or.inl rfl | exact Or.inr rfl) (jx_callTy (cr_tupleU rfl) rfl B.tuple boot_tuple (jab_cons (JE.b (JX.frz (jx_ss rfl hu64 rfl B.sorted rfl B.set (jab_cons (JE.b (JX.frz (jx_lc (own := [("_law_own", 7)]) rfl scN.nd (ji_any (JX.frz (jx_var (pv 3)))) (blkOk_by (own := [("_law_own", 7)]) (N := N__law_right) (by kernel_rfl)) (fun _ _ _ _ _ => jg_name (pg_name (i := 7) scN.nd rfl (by first | exact Or.inl rfl | exact Or.inr rfl)) (by decide)) (fun _ _ _ _ _ => jts_one (jt_cmp (op_neU hu64) (jb_rd (pv 7)) (JE.b (JX.frz (jx_tup (ja_nil)))) rfl)) (fun _ _ _ _ _ => JX.frz (jx_ix (ix_U hu1) (jb_rd (pv 7)) (JE.b (JX.frz (jx_neg (JX.frz (jx_int))))) (fun _ _ => rfl))) (fun _ => rfl)))) (jab_nil) rfl) rfl))) (jab_nil) rfl) (by decide) (by decide) rfl rfl) (by first | rfl | exact sw_false_name | decide)) (fun _ _ _ h => h))
      (jss_cons (js_if (jt_not (jt_truth (JE.b (JX.frz (jx_own C__law_same (hr.mono (by decide)) tk rfl (jab_cons (JE.b (JX.frz (jx_lst (ja_cons (JX.frz (jx_own C_last_ones (hr.mono (by decide)) tk rfl (jab_cons (JE.b (JX.frz (jx_var (pv 2)))) (jab_nil) rfl) (blS bl0) (by decide) rfl rfl)) (ja_cons (JX.frz (jx_own C_last_ones (hr.mono (by decide)) tk rfl (jab_cons (JE.b (JX.frz (jx_own C__law_lists (hr.mono (by decide)) tk rfl (jab_cons (JE.b (JX.frz (jx_var (pv 2)))) (jab_nil) rfl) (blS bl0) (by decide) rfl rfl))) (jab_nil) rfl) (blS bl0) (by decide) rfl rfl)) (ja_nil) rfl) rfl)))) (jab_cons (JE.b (JX.frz (jx_lst (ja_cons (JX.frz (jx_var (pv 4))) (ja_cons (JX.frz (jx_var (pv 4))) (ja_nil) rfl) rfl)))) (jab_nil) rfl) rfl) (blS (blS bl0)) (by decide) rfl rfl))) (fun _ => rfl))) (jss_one (js_ret (jx_bl))) (jss_nil))
      (jss_one (js_fz [2] (js_for (gs := [5]) po rfl (ji_any (JX.frz (jx_own C__law_subsets (hr.mono (by decide)) tk rfl (jab_cons (JE.b (JX.frz (jx_lc (own := [("_law_own", 7), ("_law_wants", 8)]) rfl scN.nd (ji_any (JX.frz (jx_var (pv 2)))) (blkOk_by (own := [("_law_own", 7), ("_law_wants", 8)]) (N := N__law_right) (by kernel_rfl)) (fun _ _ _ _ _ => jg_tup rfl (jgs_cons (jg_name (pg_name (i := 7) scN.nd rfl (by first | exact Or.inl rfl | exact Or.inr rfl)) (by decide)) (jgs_cons (jg_name (pg_name (i := 8) scN.nd rfl (by first | exact Or.inl rfl | exact Or.inr rfl)) (by decide)) (jgs_nil) rfl) rfl) rfl rfl) (fun _ _ _ _ _ => jts_nil) (fun _ _ _ _ _ => JX.frz (jx_var (pv 7))) (fun _ => rfl)))) (jab_nil) rfl) (blS bl0) (by decide) rfl rfl))) (jg_name (pg_name (i := 5) scN.nd rfl (by first | exact Or.inl rfl | exact Or.inr rfl)) (by decide)) (jss_cons (js_asg (ps_set (i := 6) scN.nd rfl (by first | exact Or.inl rfl | exact Or.inr rfl) (jx_ix (ix_U hu1) (JE.b (JX.frz (jx_own C__law_orders (hr.mono (by decide)) tk rfl (jab_cons (JE.b (JX.frz (jx_callTy (cr_tupleU rfl) rfl B.tuple boot_tuple (jab_cons (JE.b (JX.frz (jx_lc (own := [("_law_own", 7), ("_law_wants", 8)]) rfl scN.nd (ji_any (JX.frz (jx_var (pv 2)))) (blkOk_by (own := [("_law_own", 7), ("_law_wants", 8)]) (N := N__law_right) (by kernel_rfl)) (fun _ _ _ _ _ => jg_tup rfl (jgs_cons (jg_name (pg_name (i := 7) scN.nd rfl (by first | exact Or.inl rfl | exact Or.inr rfl)) (by decide)) (jgs_cons (jg_name (pg_name (i := 8) scN.nd rfl (by first | exact Or.inl rfl | exact Or.inr rfl)) (by decide)) (jgs_nil) rfl) rfl) rfl rfl) (fun _ _ _ _ _ => jts_nil) (fun _ _ _ _ _ => JX.frz (jx_tup (ja_cons (JX.frz (jx_var (pv 7))) (ja_cons (JX.frz (jx_ife (jt_cmp (op_notInU hu65) (jb_rd (pv 7)) (jb_rd (pv 5)) rfl) (jx_var (pv 8)) (jx_tup (ja_nil)))) (ja_nil) rfl) rfl))) (fun _ => rfl)))) (jab_nil) rfl) (by decide) (by decide) rfl rfl))) (jab_nil) rfl) (blS bl0) (by decide) rfl rfl))) (JE.b (JX.frz (jx_int))) (fun _ _ => rfl)) (by first | rfl | exact sw_false_name | decide)) (fun _ _ _ h => h))
      (jss_cons (js_asg (ps_set (i := 4) scN.nd rfl (by first | exact Or.inl rfl | exact Or.inr rfl) (jx_callTy (cr_tupleU rfl) rfl B.tuple boot_tuple (jab_cons (JE.b (JX.frz (jx_lc (own := [("_law_own", 7)]) rfl scN.nd (ji_any (JX.frz (jx_callB (cr_sortedU hu64) rfl B.sorted boot_sorted (jab_cons (JE.b (JX.frz (jx_ix (ix_U hu1) (jb_rd (pv 3)) (JE.b (JX.frz (jx_int))) (fun _ _ => rfl)))) (jab_nil) rfl) (by decide) (by decide) rfl rfl))) (blkOk_by (own := [("_law_own", 7)]) (N := N__law_right) (by kernel_rfl)) (fun _ _ _ _ _ => jg_name (pg_name (i := 7) scN.nd rfl (by first | exact Or.inl rfl | exact Or.inr rfl)) (by decide)) (fun _ _ _ _ _ => jts_one (jt_cmp (op_notInU hu65) (jb_rd (pv 7)) (jb_rd (pv 6)) rfl)) (fun _ _ _ _ _ => JX.frz (jx_var (pv 7))) (fun _ => rfl)))) (jab_nil) rfl) (by decide) (by decide) rfl rfl) (by first | rfl | exact sw_false_name | decide)) (fun _ _ _ h => h))
      (jss_one (js_if (jt_not (jt_truth (JE.b (JX.frz (jx_own C__law_same (hr.mono (by decide)) tk rfl (jab_cons (JE.b (JX.frz (jx_lst (ja_cons (JX.frz (jx_own C_lost_without (hr.mono (by decide)) tk rfl (jab_cons (JE.b (JX.frz (jx_var (pv 2)))) (jab_cons (JE.b (JX.frz (jx_var (pv 5)))) (jab_nil) rfl) rfl) (blS (blS bl0)) (by decide) rfl rfl)) (ja_cons (JX.frz (jx_own C_lost_without (hr.mono (by decide)) tk rfl (jab_cons (JE.b (JX.frz (jx_own C__law_lists (hr.mono (by decide)) tk rfl (jab_cons (JE.b (JX.frz (jx_var (pv 2)))) (jab_nil) rfl) (blS bl0) (by decide) rfl rfl))) (jab_cons (JE.b (JX.frz (jx_callTy cr_listU rfl B.list boot_list (jab_cons (jb_rd (pv 5)) (jab_nil) rfl) (by decide) (by decide) rfl rfl))) (jab_nil) rfl) rfl) (blS (blS bl0)) (by decide) rfl rfl)) (ja_nil) rfl) rfl)))) (jab_cons (JE.b (JX.frz (jx_lst (ja_cons (JX.frz (jx_var (pv 4))) (ja_cons (JX.frz (jx_var (pv 4))) (ja_nil) rfl) rfl)))) (jab_nil) rfl) rfl) (blS (blS bl0)) (by decide) rfl rfl))) (fun _ => rfl))) (jss_one (js_ret (jx_bl))) (jss_nil))))) (fun _ => rfl)))))))) (fun _ => rfl))
      (jss_one (js_ret (jx_bl)))
/-! law -/
def N_law : List Str := ["_law_script", "_law_cells_so", "_law_k"]
theorem sc_law : FnScope N_law ["_law_script"] (defScope (top 34)) := ⟨rfl, rfl, rfl, by decide +kernel, rfl, by decide +kernel, by decide +kernel⟩
def f_law : T → SR :=
  sSeq (sIfS (sNot (sTru (toB (frz (sCall den__law_by_hand_right sBNil))))) (sRet (sC (.bl false))) (sNext)) (sSeq (sSet 1 (sCall den__law_cells (sBCons (toB (frz (sVar 0))) (sBCons (toB (frz (sC (.int 3)))) (sBNil))))) (sRet (sCB (g1 gAll) (sBCons (toB (frz (sFzX [1] (sLc (sRng1 (sCons (frz (sCB (g1 gLen) (sBCons (sRd 1) (sBNil)))) (sNil))) (gNm 2) (fun τ => .ok true τ) (frz (sCallF den__law_right (sCall den__law_box (sBCons (toB (frz (sVar 1))) (sBCons (toB (frz (sVar 2))) (sBNil)))))) [2])))) (sBNil)))))
def den_law : List Sl → DR := run 2 f_law
def c0_law : D → T → Rs (Option D) :=
  turnC (gNm 2) (fun τ => .ok true τ) (frz (sCallF den__law_right (sCall den__law_box (sBCons (toB (frz (sVar 1))) (sBCons (toB (frz (sVar 2))) (sBNil)))))) [2]
theorem nE_law : f_law = (sSeq (sIfS (sNot (sTru (toB (frz (sCall den__law_by_hand_right sBNil))))) (sRet (sC (.bl false))) (sNext)) (sSeq (sSet 1 (sCall den__law_cells (sBCons (toB (frz (sVar 0))) (sBCons (toB (frz (sC (.int 3)))) (sBNil))))) (sRet (sCB (g1 gAll) (sBCons (toB (frz (sFzX [1] (sLcB (sRng1 (sCons (frz (sCB (g1 gLen) (sBCons (sRd 1) (sBNil)))) (sNil))) c0_law [2])))) (sBNil)))))) := rfl
theorem ok_law {f : Addr} {fd : FuncData} (B : Blt mg) (B2 : B2s mg) (XK : xAll xcs K = true) (XG : ∀ c ∈ xcs, mg (xName c) = some (.ref (xC K c))) (GC : GCs mg) (XR_0 : XRs P w K mg base 0 "name") (F_law : FunD K "law" "law" (defArgs (top 34)) (defBody (top 34)) (defScope (top 34)) [] [] f fd) (C__law_by_hand_right : Callee P w K mg base (pxK K) "_law_by_hand_right" (defArgs (top 32)) [] 19 den__law_by_hand_right) (C__law_cells : Callee P w K mg base (pxK K) "_law_cells" (defArgs (top 20)) ["_law_script", "_law_top"] 1 den__law_cells) (C__law_right : Callee P w K mg base (pxK K) "_law_right" (defArgs (top 33)) ["_law_urn"] 18 den__law_right) (C__law_box : Callee P w K mg base (pxK K) "_law_box" (defArgs (top 19)) ["_law_script", "_law_k"] 1 den__law_box) : FnOk P w K mg base (L2.CX P w) 20 f fd ["_law_script"] (spOf K (pxK K) 1 den_law) := by
  have scN := sc_law
  refine fn_run (k := 19) (m := 2) (g := f_law) F_law sc_law rfl fun cdv A outer s H E hr tk po => ?_
  have hu64 := hr.units
  have hu65 : (A.deeper (envOfC "law" (defScope (top 34)) s.heap.objs.size f cdv)).units + 65 < cLine := by have := hr.un; omega
  have hu1 : (A.deeper (envOfC "law" (defScope (top 34)) s.heap.objs.size f cdv)).units + 1 < cLine := by have := hr.un; omega
  exact jss_cons (js_if (jt_not (jt_truth (JE.b (JX.frz (jx_own0 C__law_by_hand_right (hr.mono (by decide)) tk rfl (by decide)))) (fun _ => rfl))) (jss_one (js_ret (jx_bl))) (jss_nil))
      (jss_cons (js_asg (ps_set (i := 1) scN.nd rfl (by first | exact Or.inl rfl | exact Or.inr rfl) (jx_own C__law_cells (hr.mono (by decide)) tk rfl (jab_cons (JE.b (JX.frz (jx_var (pv 0)))) (jab_cons (JE.b (JX.frz (jx_int))) (jab_nil) rfl) rfl) (blS (blS bl0)) (by decide) rfl rfl) (by first | rfl | exact sw_false_name | decide)) (fun _ _ _ h => h))
      (jss_one (js_ret (jx_callB (cr_allU rfl) rfl B.all boot_all (jab_cons (JE.b (JX.frz (jx_fz [1] (jx_lc (own := [("_law_k", 2)]) rfl scN.nd (ji_range1 rfl B.range (ja_cons (JX.frz (jx_callB cr_lenU rfl B.len boot_len (jab_cons (jb_rd (pv 1)) (jab_nil) rfl) (by decide) (by decide) rfl rfl)) (ja_nil) rfl) rfl) (blkOk_by (own := [("_law_k", 2)]) (N := N_law) (by kernel_rfl)) (fun _ _ _ _ _ => jg_name (pg_name (i := 2) scN.nd rfl (by first | exact Or.inl rfl | exact Or.inr rfl)) (by decide)) (fun _ _ _ _ _ => jts_nil) (fun _ _ _ _ _ => JX.frz (jx_ownF C__law_right (hr.mono (by decide)) takes0 rfl (jx_own C__law_box (hr.mono (by decide)) takes0 rfl (jab_cons (JE.b (JX.frz (jx_var (pv 1)))) (jab_cons (JE.b (JX.frz (jx_var (pv 2)))) (jab_nil) rfl) rfl) (blS (blS bl0)) (by decide) rfl rfl) (by decide) rfl)) (fun _ => rfl))))) (jab_nil) rfl) (by decide) (by decide) rfl rfl))))
end
end U
end

section
set_option Elab.async false
set_option linter.all false
set_option maxRecDepth 100000
namespace U
open PySem PySem.Spec PyProof.Rows L2
/-! ### the urn -/
theorem at3 : (∀ x y z : D, atI [x, y, z] 0 = some x) ∧ (∀ x y z : D, atI [x, y, z] 1 = some y) ∧ (∀ x y z : D, atI [x, y, z] 2 = some z) ∧ (∀ x y z : D, ixN [x, y, z].length 0 = some 0) ∧ (∀ x y z : D, ixN [x, y, z].length 1 = some 1) ∧ (∀ x y z : D, ixN [x, y, z].length 2 = some 2) := by
  repeat' apply And.intro
  all_goals (intros; rfl)
theorem log2_few {n : Nat} (h : n < 2 ^ 200) : n.log2 < 9000 := by
  by_cases h0 : n = 0
  · subst h0; decide
  · have := (Nat.log2_lt h0).mpr h
    omega
theorem cMul_r {i j : Int} (h : j.natAbs < 2 ^ 64) : cMul i j = true := by unfold cMul; simp [h]
theorem cMul_l {i j : Int} (h : i.natAbs < 2 ^ 64) : cMul i j = true := by unfold cMul; simp [h]
def Urn (k : Nat) (u : List D) : Prop := ∃ a b c : Int, u = [.int a, .int b, .int c] ∧ 0 ≤ a ∧ 0 ≤ b ∧ 0 ≤ c ∧ c ≤ k
theorem Urn.mono {k k' : Nat} {u : List D} (h : Urn k u) (le : k ≤ k') : Urn k' u := by
  obtain ⟨a, b, c, e, h1, h2, h3, h4⟩ := h
  exact ⟨a, b, c, e, h1, h2, h3, by omega⟩
theorem take_ok {k : Nat} {u : List D} {n : Int} (hu : Urn k u) (hk : k < 2 ^ 60) (hn : 0 < n) (hl : n.natAbs.log2 < 9000) :
    ∃ d u', 0 ≤ d ∧ d < n ∧ Urn (k + 1) u' ∧ den__law_take [.io (.l u), .val (.int n)] = .ok (.d (.int d)) [.io (.l u'), .no] := by
  obtain ⟨a, b, c, rfl, h1, h2, h3, h4⟩ := hu
  by_cases h : 0 < a
  · refine ⟨a % n, [.int (a / n), .int b, .int c], Int.emod_nonneg _ (by omega), Int.emod_lt_of_pos _ hn, ⟨a / n, b, c, rfl, Int.ediv_nonneg h1 (by omega), h2, h3, by omega⟩, ?_⟩
    simp only [den__law_take, f__law_take, evl, evl2, evl3, evl4, prim, slotsE, at3, h, hn, hl, decide_true, if_true, cDiv, Bool.and_true, Bool.and_self]
  · have m1 : ∀ x : Int, cMul 48271 x = true := fun x => cMul_l (by decide)
    have m2 : ∀ x : Int, cMul x (39373 + (c + 1)) = true := fun x => cMul_r (by omega)
    have m3 : ∀ x y : Int, cMul x (y % 40009 + 7) = true := fun x y => cMul_r (by
      have := Int.emod_nonneg y (show (40009 : Int) ≠ 0 by decide)
      have := Int.emod_lt_of_pos y (show (0 : Int) < 40009 by decide)
      omega)
    have m4 : ∀ x : Int, cMul x 48271 = true := fun x => cMul_r (by decide)
    have d1 : cDiv 0 1000003 = true := by decide
    have d2 : ∀ x : Int, cDiv x 1000003 = true := fun x => by unfold cDiv; decide
    have d3 : ∀ x : Int, cDiv x 64 = true := fun x => by unfold cDiv; decide
    refine ⟨_, [.int a, .int b, .int (c + 1)], ?_, ?_, ⟨a, b, c + 1, rfl, h1, h2, by omega, by omega⟩, by
      simp only [den__law_take, f__law_take, evl, evl2, evl3, evl4, prim, slotsE, at3, h, hn, hl, decide_true, decide_false, if_true, if_false, Bool.false_eq_true, m1, m2, m3, m4, d2, d3, show decide ((0 : Int) < 2147483647) = true from by decide, show decide ((0 : Int) < 40009) = true from by decide, show decide ((0 : Int) < 2147483629) = true from by decide, show decide ((0 : Int) < 2147483587) = true from by decide]
      rfl⟩
    · exact Int.emod_nonneg _ (by omega)
    · exact Int.emod_lt_of_pos _ hn
/-! ### the comparison -/
theorem sameTup {n : Nat} {dself : List Sl → DR} {xs : List D} {d : D} (hd : d = .tup xs ∨ d = .lst xs) (hl : xs.length < lim) (ih : ∀ x ∈ xs, dself [.val x, .val x] = .ok (.d (.bl true)) [.no, .no]) :
    run 2 (f__law_same dself) [.val d, .val d] = .ok (.d (.bl true)) [.no, .no] := by
  have comp : ∀ el : T → Rs D, el = frz (sCall dself (sBCons (toB (frz (sVar 2))) (sBCons (toB (frz (sVar 3))) sBNil))) →
      compL (turnC (gTp 2 (gN1 (gNm 2) (gN1 (gNm 3) gN0))) (fun τ => .ok true τ) el [2, 3]) (zipD xs xs) [.val d, .val d, .no, .no] [] = .ok ((zipD xs xs).map fun _ => .bl true) [.val d, .val d, .no, .no] := fun el hel => by
    rw [compL_pure (h := fun _ => .bl true) (zipD xs xs) [] (fun z hz => ?_) (by rw [zipD_len, List.length_nil]; omega)]
    · rfl
    · obtain ⟨x, hx, rfl⟩ := zipD_self hz
      subst hel
      have e := ih x hx
      simp only [evl, evl2, evl3, evl4, prim, slotsE, e, List.length_cons, List.length_nil, if_true, List.nodup_nil]
  have hall : gAll (.lst ((zipD xs xs).map fun _ => D.bl true)) = some (.d (.bl true)) := gAll_true fun d hd => by
    obtain ⟨_, _, e⟩ := List.mem_map.mp hd
    exact e.symm
  have hc := comp _ rfl
  rcases hd with rfl | rfl
  · simp only [f__law_same, evl, evl2, evl3, evl4, prim, slotsE, tyE, isE, eqE, bne_self_eq_false, Bool.false_eq_true, if_false, if_true, hc, hall, beq_self_eq_true, Bool.false_bne]
  · simp only [f__law_same, evl, evl2, evl3, evl4, prim, slotsE, tyE, isE, eqE, bne_self_eq_false, Bool.false_eq_true, if_false, if_true, hc, hall, beq_self_eq_true, Bool.false_bne]
theorem same_self : ∀ (n : Nat) (d : D), n ≤ 60 → okS n d = true → den__law_same (n + 1) [.val d, .val d] = .ok (.d (.bl true)) [.no, .no] := by
  intro n
  induction n with
  | zero =>
    intro d hn h
    show run 2 (f__law_same (den__law_same 0)) [.val d, .val d] = _
    cases d <;> first | (simp [okS] at h; done) | skip
    · simp only [f__law_same, evl, evl2, evl3, evl4, prim, slotsE, tyE, isE, eqE, bne_self_eq_false, Bool.false_eq_true, if_false, if_true, beq_self_eq_true, Bool.false_bne]
    · simp only [f__law_same, evl, evl2, evl3, evl4, prim, slotsE, tyE, isE, eqE, bne_self_eq_false, Bool.false_eq_true, if_false, if_true, beq_self_eq_true, Bool.false_bne]
    · simp only [f__law_same, evl, evl2, evl3, evl4, prim, slotsE, tyE, isE, eqE, bne_self_eq_false, Bool.false_eq_true, if_false, if_true, beq_self_eq_true, Bool.false_bne, Bool.not_false]
    · rename_i x
      have e : gEq false (.str x) (.str x) = some (.d (.bl true)) := by
        have h1 : (D.str x).ok 60 = true := by simpa [okS, D.ok] using h
        unfold gEq
        rw [h1]
        simp [D.eqb]
      simp only [f__law_same, evl, evl2, evl3, evl4, prim, slotsE, tyE, isE, eqE, bne_self_eq_false, Bool.false_eq_true, if_false, if_true, beq_self_eq_true, Bool.false_bne, Bool.not_false, e]
  | succ n ih =>
    intro d hn h
    show run 2 (f__law_same (den__law_same (n + 1))) [.val d, .val d] = _
    cases d with
    | tup xs =>
      unfold okS at h
      simp only [Bool.and_eq_true, decide_eq_true_eq] at h
      exact sameTup (n := n) (.inl rfl) h.1 fun x hx => ih x (by omega) (List.all_eq_true.mp h.2 x hx)
    | lst xs =>
      unfold okS at h
      simp only [Bool.and_eq_true, decide_eq_true_eq] at h
      exact sameTup (n := n) (.inr rfl) h.1 fun x hx => ih x (by omega) (List.all_eq_true.mp h.2 x hx)
    | non => simp only [f__law_same, evl, evl2, evl3, evl4, prim, slotsE, tyE, isE, eqE, bne_self_eq_false, Bool.false_eq_true, if_false, if_true, beq_self_eq_true, Bool.false_bne]
    | bl b => simp only [f__law_same, evl, evl2, evl3, evl4, prim, slotsE, tyE, isE, eqE, bne_self_eq_false, Bool.false_eq_true, if_false, if_true, beq_self_eq_true, Bool.false_bne]
    | int i => simp only [f__law_same, evl, evl2, evl3, evl4, prim, slotsE, tyE, isE, eqE, bne_self_eq_false, Bool.false_eq_true, if_false, if_true, beq_self_eq_true, Bool.false_bne, Bool.not_false]
    | str x =>
      have e : gEq false (.str x) (.str x) = some (.d (.bl true)) := by
        have h1 : (D.str x).ok 60 = true := by simpa [okS, D.ok] using h
        unfold gEq
        rw [h1]
        simp [D.eqb]
      simp only [f__law_same, evl, evl2, evl3, evl4, prim, slotsE, tyE, isE, eqE, bne_self_eq_false, Bool.false_eq_true, if_false, if_true, beq_self_eq_true, Bool.false_bne, Bool.not_false, e]
    | _ => simp [okS] at h
theorem same12 {d : D} (h : okS 11 d = true) : den__law_same 12 [.val d, .val d] = .ok (.d (.bl true)) [.no, .no] := same_self 11 d (by decide) h
/-! ### the cells and the box -/
theorem at_nat {α : Type} {xs : List α} {i : Nat} (h : i < xs.length) : atI xs (i : Int) = some xs[i] := by
  unfold atI ixN
  have h0 : (0 : Int) ≤ (i : Int) := by omega
  have h1 : (i : Int) < (xs.length : Int) := by omega
  rw [if_pos h0, if_pos h1]
  simp [h]
theorem ixN_nat {n i : Nat} (h : i < n) : ixN n (i : Int) = some i := by
  unfold ixN
  rw [if_pos (by omega), if_pos (by omega)]
  simp
theorem cells_loop : ∀ (es : List Int) (k : Nat) (cs : List Int) (σ3 σ4 σ5 : Sl) (ns : List Int), k + es.length ≤ 100 → cs.length = 3 → σ3.free = true → σ4.free = true → σ5.free = true →
    ∃ (cs' : List Int) (s3 s4 s5 : Sl), cs'.length = 3 ∧ forL (sBody (gTp 2 (gN1 (gNm 3) (gN1 (gNm 4) gN0))) (sSeq (sSet 5 (sOp2 (gInt (fun _ j => decide (0 < j)) fun i j => i % j) (toB (frz (sCB (g1 gIntC) (sBCons (sRd 3) sBNil)))) (sRd 1))) (sStore 2 (frz (sOp2 gAdd (toB (frz (sOp2 gIx (sRd 2) (sRd 5)))) (toB (frz (sOp2 gMul (sRd 4) (toB (frz (sOp2 gAdd (sRd 3) (toB (frz (sC (.int 2)))))))))))) (frz (sVar 5)))))
      (numb k (es.map D.int)) [.val (.scr ns), .val (.int 3), .own (.l (cs.map D.int)), σ3, σ4, σ5] = .nx [.val (.scr ns), .val (.int 3), .own (.l (cs'.map D.int)), s3, s4, s5]
  | [], k, cs, σ3, σ4, σ5, ns, _, hc, _, _, _ => ⟨cs, σ3, σ4, σ5, hc, rfl⟩
  | e :: es, k, cs, σ3, σ4, σ5, ns, hk, hc, f3, f4, f5 => by
    have hr : (k : Int) % 3 = ((k % 3 : Nat) : Int) := by omega
    have hlt : k % 3 < cs.length := by omega
    have ha : atI (cs.map D.int) ((k : Int) % 3) = some (.int cs[k % 3]) := by
      rw [hr, at_nat (by simpa using hlt)]; simp
    have hi : ixN (cs.map D.int).length ((k : Int) % 3) = some (k % 3) := by rw [hr]; exact ixN_nat (by simpa using hlt)
    have hm : cMul e ((k : Int) + 2) = true := cMul_r (by
      rw [List.length_cons] at hk
      omega)
    obtain ⟨cs', s3, s4, s5, h1, h2⟩ := cells_loop es (k + 1) (cs.set (k % 3) (cs[k % 3] + e * ((k : Int) + 2))) (.val (.int k)) (.val (.int e)) (.val (.int ((k : Int) % 3))) ns (by rw [List.length_cons] at hk; omega) (by simpa using hc) rfl rfl rfl
    refine ⟨cs', s3, s4, s5, h1, ?_⟩
    rw [List.map_cons]
    show forL _ (.tup [.int (k : Int), .int e] :: numb (k + 1) (es.map D.int)) _ = _
    rw [forL_step (τ1 := [.val (.scr ns), .val (.int 3), .own (.l ((cs.set (k % 3) (cs[k % 3] + e * ((k : Int) + 2))).map D.int)), .val (.int k), .val (.int e), .val (.int ((k : Int) % 3))])]
    · exact h2
    · simp only [evl, evl2, evl3, evl4, prim, slotsE, f3, f4, f5, if_true, ha, hi, hm, List.length_cons, List.length_nil, show decide ((0 : Int) < 3) = true from by decide, List.map_set]
theorem cells_ok (ns : List Int) (hn : ns.length ≤ 63) : ∃ cs : List Int, 1 ≤ cs.length ∧ cs.length ≤ 3 ∧ den__law_cells [.val (.scr ns), .val (.int 3)] = .ok (.o (.l (cs.map D.int))) [.no, .no] := by
  have c1 : cutA ns none (some 3) = ns.take 3 := by
    unfold cutA
    have : HT.sIx ns.length ns.length (some 3) = min 3 ns.length := HT.sIx_nat ns.length ns.length 3
    rw [this, HT.sIx_none, List.drop_zero, Nat.sub_zero]
    rw [Nat.min_def]; split
    · rfl
    · rw [List.take_of_length_le (by omega), List.take_of_length_le (by omega)]
  have c2 : ∃ es : List Int, es.length ≤ 60 ∧ (ns.length ≤ 3 → es = []) ∧ cutA ns (some 3) (some 63) = es := by
    refine ⟨_, ?_, ?_, rfl⟩
    · unfold cutA
      rw [show HT.sIx ns.length 0 (some 3) = min 3 ns.length from HT.sIx_nat ns.length 0 3, show HT.sIx ns.length ns.length (some 63) = min 63 ns.length from HT.sIx_nat ns.length ns.length 63]
      simp only [List.length_take, List.length_drop]
      omega
    · intro h
      unfold cutA
      rw [show HT.sIx ns.length 0 (some 3) = min 3 ns.length from HT.sIx_nat ns.length 0 3]
      rw [List.drop_of_length_le (by omega)]
      simp
  obtain ⟨es, h60, hnil, c2⟩ := c2
  by_cases h3 : ns.length ≤ 3
  · have := hnil h3
    subst this
    cases ns with
    | nil =>
      refine ⟨[0], by decide, by decide, ?_⟩
      simp only [den__law_cells, f__law_cells, evl, evl2, evl3, evl4, prim, slotsE, c1, c2, List.take_nil, List.map_nil, List.isEmpty_nil, Bool.not_true, List.length_cons, List.length_nil, if_true, numb, forL, show (0 + 1 ≤ lim) = True from by simp [lim], List.map_cons]
    | cons a as =>
      refine ⟨(a :: as).take 3, by simp, by simp; omega, ?_⟩
      have hne : (((a :: as).take 3).map D.int).isEmpty = false := by simp
      simp only [den__law_cells, f__law_cells, evl, evl2, evl3, evl4, prim, slotsE, c1, c2, List.map_nil, hne, Bool.not_false, List.length_cons, List.length_nil, if_true, numb, forL]
  · have hne : ((ns.take 3).map D.int).isEmpty = false := by
      cases ns with
      | nil => simp at h3
      | cons a as => simp
    obtain ⟨cs', s3, s4, s5, h1, h2⟩ := cells_loop es 0 (ns.take 3) .no .no .no ns (by omega) (by rw [List.length_take]; omega) rfl rfl rfl
    refine ⟨cs', by omega, by omega, ?_⟩
    simp only [den__law_cells, f__law_cells, evl, evl2, evl3, evl4, prim, slotsE, c1, c2, hne, Bool.not_false, if_true, h2]
theorem box_ok (cs : List Int) (k : Nat) (hk : k < cs.length) (hl : cs.length ≤ 3) : ∃ u, Urn 0 u ∧ den__law_box [.val (.lst (cs.map D.int)), .val (.int k)] = .ok (.o (.l u)) [.no, .no] := by
  have hlt : decide ((k : Int) < ((cs.map D.int).length : Int)) = true := by simpa using hk
  have ha : atI (cs.map D.int) (k : Int) = some (.int cs[k]) := by rw [at_nat (by simpa using hk)]; simp
  have m1 : ∀ x : Int, cMul 39373 x = true := fun x => cMul_l (by decide)
  have m2 : ∀ (x : Int) (b : Bool), cMul x (if b then 1 else 0) = true := fun x b => cMul_r (by cases b <;> decide)
  have p1 : cPow 10 18 = true := by decide
  generalize hz : cs[k] = z at ha
  refine ⟨_, ⟨_, _, _, rfl, ?_, ?_, ?_, ?_⟩, by
    simp only [den__law_box, f__law_box, evl, evl2, evl3, evl4, prim, slotsE, hlt, ha, if_true, m1, m2, p1, List.length_cons, List.length_nil, show decide ((0 : Int) < 2305843009213693951) = true from by decide, show (0 + 1 + 1 + 1 ≤ lim) = True from by simp [lim]]
    rfl⟩
  · refine Int.mul_nonneg (by split <;> omega) (by split <;> omega)
  · have := Int.emod_nonneg z (show (2305843009213693951 : Int) ≠ 0 by decide)
    omega
  · decide
  · decide
end U
end

section
set_option Elab.async false
set_option linter.all false
set_option maxRecDepth 100000
namespace U
open PySem PySem.Spec PyProof.Rows L2
mutual
def tupD : D → D
  | .tup xs => .tup (tupDL xs)
  | .lst xs => .tup (tupDL xs)
  | .non => .non
  | .bl b => .bl b
  | .int i => .int i
  | .str x => .str x
  | .dct a b c => .dct a b c
  | .exc a b => .exc a b
  | .scr a => .scr a
  | .ptp a => .ptp a
def tupDL : List D → List D
  | [] => []
  | d :: ds => tupD d :: tupDL ds
end
theorem tupDL_map : ∀ ds : List D, tupDL ds = ds.map tupD
  | [] => rfl
  | d :: ds => by simp only [tupDL, List.map_cons, tupDL_map ds]
theorem tupD_sq (h : Bool) (xs : List D) : tupD (sq h xs) = .tup (xs.map tupD) := by
  cases h
  · show tupD (.lst xs) = _; simp only [tupD, tupDL_map]
  · show tupD (.tup xs) = _; simp only [tupD, tupDL_map]
theorem tupD_set (h : Bool) (s : NS) : tupD (setE h s) = setT s := by
  unfold setE
  rw [tupD_sq, List.map_map]; rfl
theorem tupD_lot (h : Bool) (l : List NS) : tupD (lotE h l) = lotE true l := by
  unfold lotE
  rw [tupD_sq, List.map_map]
  show D.tup _ = D.tup _
  congr 1
  exact List.map_congr_left fun s _ => tupD_set h s
theorem tupD_row (h : Bool) (r : Nm × List NS) : tupD (rowE h r) = rowE true r := by
  unfold rowE
  rw [tupD_sq]
  simp only [List.map_cons, List.map_nil, tupD_lot]; rfl
theorem tupD_bk (h : Bool) (b : Bk) : tupD (bkE h b) = bkE true b := by
  unfold bkE
  rw [tupD_sq, List.map_map]
  show D.tup _ = D.tup _
  congr 1
  exact List.map_congr_left fun s _ => tupD_row h s
theorem tupled_ok : ∀ (n : Nat) (d : D), okS n d = true → den_tupled (n + 1) [.val d] = .ok (.d (tupD d)) [.no] := by
  intro n
  induction n with
  | zero =>
    intro d h
    show run 1 (f_tupled (den_tupled 0)) [.val d] = _
    cases d <;> first | (simp [okS] at h; done) | simp only [f_tupled, evl, evl2, evl3, evl4, prim, slotsE, tyE, isE, tupD, Bool.false_eq_true, if_false]
  | succ n ih =>
    intro d h
    show run 1 (f_tupled (den_tupled (n + 1))) [.val d] = _
    have go : ∀ (xs : List D) (d : D), (d = .tup xs ∨ d = .lst xs) → (decide (xs.length < lim) && xs.all (okS n)) = true → run 1 (f_tupled (den_tupled (n + 1))) [.val d] = .ok (.d (.tup (tupDL xs))) [.no] := fun xs d hd h => by
      simp only [Bool.and_eq_true, decide_eq_true_eq] at h
      have hc : compL (c0_tupled (den_tupled (n + 1))) xs [.val d, .no] [] = .ok (xs.map tupD) [.val d, .no] := by
        rw [compL_pure (h := tupD) xs [] (fun x hx => ?_) (by rw [List.length_nil]; omega)]
        · rfl
        · have e := ih x (List.all_eq_true.mp h.2 x hx)
          generalize den_tupled (n + 1) = dn at e ⊢
          simp only [c0_tupled, evl, evl2, evl3, evl4, prim, slotsE, if_true, e, nd0]
      rw [nE_tupled]
      generalize c0_tupled (den_tupled (n + 1)) = cc at hc ⊢
      rw [tupDL_map]
      rcases hd with rfl | rfl
      · simp only [evl, evl2, evl3, evl4, evl6, prim, slotsE, tyE, isE, if_true, hc]
      · simp only [evl, evl2, evl3, evl4, evl6, prim, slotsE, tyE, isE, if_true, hc]
    cases d with
    | tup xs =>
      unfold okS at h
      simp only [tupD]
      exact go xs _ (.inl rfl) h
    | lst xs =>
      unfold okS at h
      simp only [tupD]
      exact go xs _ (.inr rfl) h
    | non => simp only [f_tupled, evl, evl2, evl3, evl4, prim, slotsE, tyE, isE, tupD, Bool.false_eq_true, if_false]
    | bl b => simp only [f_tupled, evl, evl2, evl3, evl4, prim, slotsE, tyE, isE, tupD, Bool.false_eq_true, if_false]
    | int b => simp only [f_tupled, evl, evl2, evl3, evl4, prim, slotsE, tyE, isE, tupD, Bool.false_eq_true, if_false]
    | str b => simp only [f_tupled, evl, evl2, evl3, evl4, prim, slotsE, tyE, isE, tupD, Bool.false_eq_true, if_false]
    | _ => simp [okS] at h
/-! okS of typed data -/
theorem okS_sq (h : Bool) (xs : List D) (n : Nat) : okS (n + 1) (sq h xs) = (decide (xs.length < lim) && xs.all (okS n)) := by cases h <;> simp [sq, okS]
structure Size (b : Bk) : Prop where
  rows : b.length < lim
  needs : ∀ r ∈ b, r.2.length < lim
  names : ∀ r ∈ b, ∀ s ∈ r.2, s.length < lim
theorem okS_nm {x : Nm} (h : GN x) (n : Nat) : okS n (nmD x) = true := by cases n <;> simpa [okS, nmD, GN] using h
theorem okS_set {s : NS} (h : GS s) (hl : s.length < lim) (b : Bool) (n : Nat) : okS (n + 1) (setE b s) = true := by
  unfold setE
  rw [okS_sq, List.length_map, decide_eq_true hl, Bool.true_and]
  refine List.all_eq_true.mpr fun d hd => ?_
  obtain ⟨x, hx, rfl⟩ := List.mem_map.mp hd
  exact okS_nm (h x hx) n
theorem okS_lot {l : List NS} (h : GL l) (hl : l.length < lim) (hs : ∀ s ∈ l, s.length < lim) (b : Bool) (n : Nat) : okS (n + 2) (lotE b l) = true := by
  unfold lotE
  rw [okS_sq, List.length_map, decide_eq_true hl, Bool.true_and]
  refine List.all_eq_true.mpr fun d hd => ?_
  obtain ⟨x, hx, rfl⟩ := List.mem_map.mp hd
  exact okS_set (h x hx) (hs x hx) b n
theorem okS_row {r : Nm × List NS} (h : GN r.1) (h2 : GL r.2) (hl : r.2.length < lim) (hs : ∀ s ∈ r.2, s.length < lim) (b : Bool) (n : Nat) : okS (n + 3) (rowE b r) = true := by
  unfold rowE
  rw [okS_sq]
  simp only [List.all_cons, List.all_nil, Bool.and_true, okS_nm h, okS_lot h2 hl hs b n, List.length_cons, List.length_nil]
  exact decide_eq_true (show 0 + 1 + 1 < lim by decide)
theorem okS_bk {b : Bk} (g : GB b) (z : Size b) (h : Bool) (n : Nat) : okS (n + 4) (bkE h b) = true := by
  unfold bkE
  rw [okS_sq, List.length_map, decide_eq_true z.rows, Bool.true_and]
  refine List.all_eq_true.mpr fun d hd => ?_
  obtain ⟨x, hx, rfl⟩ := List.mem_map.mp hd
  exact okS_row (g x hx).1 (g x hx).2 (z.needs x hx) (z.names x hx) h n
theorem tupled_ptp {n : Nat} {xs : List D} (h : xs.length < lim) (ho : ∀ x ∈ xs, okS n x = true) : den_tupled (n + 2) [.val (.ptp xs)] = .ok (.d (.tup (xs.map tupD))) [.no] := by
  show run 1 (f_tupled (den_tupled (n + 1))) [.val (.ptp xs)] = _
  have hc : compL (c0_tupled (den_tupled (n + 1))) xs [.val (.ptp xs), .no] [] = .ok (xs.map tupD) [.val (.ptp xs), .no] := by
    rw [compL_pure (h := tupD) xs [] (fun x hx => ?_) (by rw [List.length_nil]; omega)]
    · rfl
    · have e := tupled_ok n x (ho x hx)
      generalize den_tupled (n + 1) = dn at e ⊢
      simp only [c0_tupled, evl, evl2, evl3, evl4, prim, slotsE, if_true, e, nd0]
  have it : (D.ptp xs).items = some xs := rfl
  have ty : (D.ptp xs).ty = some "tuple" := rfl
  rw [nE_tupled]
  generalize c0_tupled (den_tupled (n + 1)) = cc at hc ⊢
  simp only [evl, evl2, evl3, evl4, evl6, prim, slotsE, tyE, isE, if_true, it, ty, hc]
theorem tupled_bk {b : Bk} (g : GB b) (z : Size b) (h : Bool) : den_tupled 12 [.val (bkE h b)] = .ok (.d (bkE true b)) [.no] := by
  rw [tupled_ok 11 _ (okS_bk g z h 7), tupD_bk]
/-! names_of, check_units -/
theorem set_of_ok {l : List NS} (hs : GL l) (hl : l.length ≤ lim) (few : (dd l).length < 64) : den_set_of [.val (.lst (l.map setT))] = .ok (.d (lotE true (sof' ltS l))) [.no] := by
  have h1 : gSS (.lst (l.map setT)) = some (.o (.l ((sof' ltS l).map setT))) := gSS_sets false hs hl few
  have h2 : lotE true (sof' ltS l) = .tup ((sof' ltS l).map setT) := rfl
  rw [h2]
  simp only [den_set_of, f_set_of, evl, evl2, evl3, evl4, prim, slotsE, h1]
end U
end

section
set_option Elab.async false
set_option linter.all false
set_option maxRecDepth 100000
namespace U
open PySem PySem.Spec PyProof.Rows L2
theorem l60' {n : Nat} (h : n ≤ 60) : n < lim := Nat.lt_of_le_of_lt h (by decide)
/-! able -/
def ableB (l : List NS) (u : NS) : Bool := l.any fun nd => nd.all fun x => inB x u
theorem filt_all {α : Type} {p : α → Bool} : ∀ l : List α, (l.filter fun x => !p x).isEmpty = l.all p
  | [] => rfl
  | a :: l => by
    cases c : p a
    · rw [List.filter_cons_of_pos (by simp [c])]; simp [c]
    · rw [List.filter_cons_of_neg (by simp [c]), filt_all l]; simp [c]
theorem filt_any {α : Type} {p : α → Bool} : ∀ l : List α, (!(l.filter p).isEmpty) = l.any p
  | [] => rfl
  | a :: l => by
    cases c : p a
    · rw [List.filter_cons_of_neg (by simp [c]), filt_any l]; simp [c]
    · rw [List.filter_cons_of_pos (by simp [c])]; simp [c]
mutual
def lstD : D → D
  | .tup xs => .lst (lstDL xs)
  | .lst xs => .lst (lstDL xs)
  | .non => .non
  | .bl b => .bl b
  | .int i => .int i
  | .str x => .str x
  | .dct a b c => .dct a b c
  | .exc a b => .exc a b
  | .scr a => .scr a
  | .ptp a => .ptp a
def lstDL : List D → List D
  | [] => []
  | d :: ds => lstD d :: lstDL ds
end
def lstR : D → PR
  | .tup xs => .o (.l (lstDL xs))
  | .lst xs => .o (.l (lstDL xs))
  | d => .d (lstD d)
theorem lstR_D (d : D) : (lstR d).toD = lstD d := by cases d <;> simp [lstR, lstD, PR.toD, OV.toD]
theorem lstDL_map : ∀ ds : List D, lstDL ds = ds.map lstD
  | [] => rfl
  | d :: ds => by simp only [lstDL, List.map_cons, lstDL_map ds]
theorem lstD_sq (h : Bool) (xs : List D) : lstD (sq h xs) = .lst (xs.map lstD) := by
  cases h
  · show lstD (.lst xs) = _; simp only [lstD, lstDL_map]
  · show lstD (.tup xs) = _; simp only [lstD, lstDL_map]
theorem lstD_set (h : Bool) (s : NS) : lstD (setE h s) = setE false s := by
  unfold setE
  rw [lstD_sq, List.map_map]; rfl
theorem lstD_lot (h : Bool) (l : List NS) : lstD (lotE h l) = lotE false l := by
  unfold lotE
  rw [lstD_sq, List.map_map]
  show D.lst _ = D.lst _
  congr 1
  exact List.map_congr_left fun s _ => lstD_set h s
theorem lstD_row (h : Bool) (r : Nm × List NS) : lstD (rowE h r) = rowE false r := by
  unfold rowE
  rw [lstD_sq]
  simp only [List.map_cons, List.map_nil, lstD_lot]; rfl
theorem lists_ok : ∀ (n : Nat) (d : D), okS n d = true → den__law_lists (n + 1) [.val d] = .ok (lstR d) [.no] := by
  intro n
  induction n with
  | zero =>
    intro d h
    show run 1 (f__law_lists (den__law_lists 0)) [.val d] = _
    cases d <;> first | (simp [okS] at h; done) | simp only [f__law_lists, evl, evl2, evl3, evl4, prim, slotsE, tyE, isE, lstR, lstD, Bool.false_eq_true, if_false]
  | succ n ih =>
    intro d h
    show run 1 (f__law_lists (den__law_lists (n + 1))) [.val d] = _
    have go : ∀ (xs : List D) (d : D), (d = .tup xs ∨ d = .lst xs) → (decide (xs.length < lim) && xs.all (okS n)) = true → run 1 (f__law_lists (den__law_lists (n + 1))) [.val d] = .ok (.o (.l (lstDL xs))) [.no] := fun xs d hd h => by
      simp only [Bool.and_eq_true, decide_eq_true_eq] at h
      have hc : compL (c0__law_lists (den__law_lists (n + 1))) xs [.val d, .no] [] = .ok (xs.map lstD) [.val d, .no] := by
        rw [compL_pure (h := lstD) xs [] (fun x hx => ?_) (by rw [List.length_nil]; omega)]
        · rfl
        · have e := ih x (List.all_eq_true.mp h.2 x hx)
          have q := lstR_D x
          generalize den__law_lists (n + 1) = dn at e ⊢
          simp only [c0__law_lists, evl, evl2, evl3, evl4, prim, slotsE, if_true, e, nd0, q]
      rw [nE__law_lists]
      generalize c0__law_lists (den__law_lists (n + 1)) = cc at hc ⊢
      rw [lstDL_map]
      rcases hd with rfl | rfl
      · simp only [evl, evl2, evl3, evl4, evl6, prim, slotsE, tyE, isE, if_true, hc]
      · simp only [evl, evl2, evl3, evl4, evl6, prim, slotsE, tyE, isE, if_true, hc]
    cases d with
    | tup xs =>
      unfold okS at h
      simp only [lstR]
      exact go xs _ (.inl rfl) h
    | lst xs =>
      unfold okS at h
      simp only [lstR]
      exact go xs _ (.inr rfl) h
    | non => simp only [f__law_lists, evl, evl2, evl3, evl4, prim, slotsE, tyE, isE, lstR, lstD, Bool.false_eq_true, if_false]
    | bl b => simp only [f__law_lists, evl, evl2, evl3, evl4, prim, slotsE, tyE, isE, lstR, lstD, Bool.false_eq_true, if_false]
    | int b => simp only [f__law_lists, evl, evl2, evl3, evl4, prim, slotsE, tyE, isE, lstR, lstD, Bool.false_eq_true, if_false]
    | str b => simp only [f__law_lists, evl, evl2, evl3, evl4, prim, slotsE, tyE, isE, lstR, lstD, Bool.false_eq_true, if_false]
    | _ => simp [okS] at h
theorem lists_bk {b : Bk} (g : GB b) (z : Size b) : den__law_lists 12 [.val (bkE true b)] = .ok (.o (.l (b.map (rowE false)))) [.no] := by
  rw [lists_ok 11 _ (okS_bk g z true 7)]
  show DR.ok (.o (.l (lstDL (b.map (rowE true))))) _ = _
  rw [lstDL_map, List.map_map]
  congr 3
  exact List.map_congr_left fun r _ => lstD_row true r
/-! the draws -/
theorem min_cases (a b : Nat) : (if (b : Int) < (a : Int) then (b : Int) else (a : Int)) = ((min a b : Nat) : Int) := by
  rw [Nat.min_def]; split <;> split <;> omega
end U
end

section
set_option Elab.async false
set_option linter.all false
set_option maxRecDepth 100000
namespace U
open PySem PySem.Spec PyProof.Rows L2
/-! defs for any types -/
theorem w_set_of {t : Ty} [DecidableEq t.V] {h : Bool} {n : Nat} {b : List Nat} {l : List t.V} (hp : t.np = true) (g : Good (.seq (.b h) t) (n :: b) l) (hn : t.isN = false) (hh : t.hsh = true) (hd : t.dp ≤ 60) (hz : n < 64) :
    den_set_of [.val (sq h (l.map (enc t)))] = .ok (.d (.tup ((sof' (ltT t) l).map (enc t)))) [.no] ∧ Good (.seq (.b true) t) (n :: b) (sof' (ltT t) l) := by
  refine ⟨?_, gd_set g⟩
  have h1 : gSS (sq h (l.map (enc t))) = _ := t_set' (h := h) hp g hn hh hd hz
  have h2 : gTuple (.lst ((sof' (ltT t) l).map (enc t))) = some (.d (.tup ((sof' (ltT t) l).map (enc t)))) := rfl
  simp only [den_set_of, f_set_of, evl, evl2, evl3, evl4, prim, slotsE, if_true, h1, h2, toD_l]
theorem enc_okS : ∀ (t : Ty) {b : List Nat} {v : t.V} {n : Nat}, t.np = true → Good t b v → t.dp ≤ n → (b.all (· < lim)) = true → okS n (enc t v) = true
  | .int, _, _, n, _, _, _, _ => by cases n <;> simp [enc, okS]
  | .bl, _, _, n, _, _, _, _ => by cases n <;> simp [enc, okS]
  | .nm, _, x, n, _, h, _, _ => okS_nm h n
  | .non, _, _, n, _, _, _, _ => by cases n <;> simp [enc, okS]
  | .seq k t, b, l, 0, _, g, d, _ => by simp [Ty.dp] at d
  | .seq k t, b, l, n + 1, hp, g, d, z => by
    obtain ⟨⟨h, rfl⟩, hp⟩ := np_seq hp
    have hh : b.headD 0 < lim := by
      cases b with
      | nil => decide
      | cons x b => exact of_decide_eq_true (List.all_eq_true.mp z x (List.mem_cons_self ..))
    have ht : (b.tail.all (· < lim)) = true := List.all_eq_true.mpr fun x hx => List.all_eq_true.mp z x (List.mem_of_mem_tail hx)
    show okS (n + 1) (sq h (l.map (enc t))) = true
    rw [okS_sq, List.length_map, decide_eq_true (Nat.lt_of_le_of_lt g.1 hh), Bool.true_and]
    exact List.all_eq_true.mpr fun d' hd => by
      obtain ⟨x, hx, rfl⟩ := List.mem_map.mp hd
      exact enc_okS t hp (g.2 x hx) (by simp only [Ty.dp] at d; omega) ht
  | .pr h s t, b, p, 0, _, g, d, _ => by simp [Ty.dp] at d
  | .pr h s t, b, p, n + 1, hp, g, d, z => by
    obtain ⟨p1, p2⟩ := np_pr hp
    simp only [Ty.dp] at d
    show okS (n + 1) (sq h [enc s p.1, enc t p.2]) = true
    rw [okS_sq]
    simp only [List.length_cons, List.length_nil, List.all_cons, List.all_nil, enc_okS s (n := n) p1 g.1 (by omega) z, enc_okS t (n := n) p2 g.2 (by omega) z, Bool.and_true]
    exact decide_eq_true (show 0 + 1 + 1 < lim by decide)
  | .tr h r s t, b, p, 0, _, g, d, _ => by simp [Ty.dp] at d
  | .tr h r s t, b, p, n + 1, hp, g, d, z => by
    obtain ⟨p1, p2, p3⟩ := np_tr hp
    simp only [Ty.dp] at d
    show okS (n + 1) (sq h [enc r p.1, enc s p.2.1, enc t p.2.2]) = true
    rw [okS_sq]
    simp only [List.length_cons, List.length_nil, List.all_cons, List.all_nil, enc_okS r (n := n) p1 g.1 (by omega) z, enc_okS s (n := n) p2 g.2.1 (by omega) z, enc_okS t (n := n) p3 g.2.2 (by omega) z, Bool.and_true]
    exact decide_eq_true (show 0 + 1 + 1 + 1 < lim by decide)
theorem tupD_enc : ∀ (t : Ty) (v : t.V) (w : (t.set true).V), t.np = true → HEq v w → tupD (enc t v) = enc (t.set true) w
  | .int, v, w, _, h => by cases h; simp [enc, Ty.set, tupD]
  | .bl, v, w, _, h => by cases h; simp [enc, Ty.set, tupD]
  | .nm, v, w, _, h => by cases h; simp [enc, Ty.set, tupD]
  | .non, v, w, _, h => by cases h; simp [enc, Ty.set, tupD]
  | .seq g t, v, w, z, h => by
    obtain ⟨⟨h0, rfl⟩, z⟩ := np_seq z
    show tupD (sq h0 (v.map (enc t))) = .tup (List.map (enc (t.set true)) w)
    rw [tupD_sq, List.map_map]
    exact congrArg D.tup (map_heq (set_V true t).symm (fun a b q => tupD_enc t a b z q) h)
  | .pr g s t, v, w, z, h => by
    obtain ⟨z1, z2⟩ := np_pr z
    obtain ⟨h1, h2⟩ := prod_heq (set_V true s).symm (set_V true t).symm h
    show tupD (sq g [enc s v.1, enc t v.2]) = .tup [enc (s.set true) w.1, enc (t.set true) w.2]
    rw [tupD_sq]
    simp only [List.map_cons, List.map_nil, tupD_enc s _ _ z1 h1, tupD_enc t _ _ z2 h2]
  | .tr g r s t, v, w, z, h => by
    obtain ⟨z1, z2, z3⟩ := np_tr z
    have e : ((s.set true).V × (t.set true).V) = (s.V × t.V) := by rw [set_V, set_V]
    obtain ⟨h1, h2⟩ := prod_heq (set_V true r).symm e.symm h
    obtain ⟨h2, h3⟩ := prod_heq (set_V true s).symm (set_V true t).symm h2
    show tupD (sq g [enc r v.1, enc s v.2.1, enc t v.2.2]) = .tup [enc (r.set true) w.1, enc (s.set true) w.2.1, enc (t.set true) w.2.2]
    rw [tupD_sq]
    simp only [List.map_cons, List.map_nil, tupD_enc r _ _ z1 h1, tupD_enc s _ _ z2 h2, tupD_enc t _ _ z3 h3]
theorem w_tupled (t : Ty) {b : List Nat} {v : t.V} {w : (t.set true).V} (hp : t.np = true) (g : Good t b v) (hd : t.dp ≤ 11) (hz : (b.all (· < lim)) = true) (hw : HEq v w) : den_tupled 12 [.val (enc t v)] = .ok (.d (enc (t.set true) w)) [.no] := by
  rw [tupled_ok 11 _ (enc_okS t hp g hd hz), tupD_enc t v w hp hw]
theorem lstD_enc : ∀ (t : Ty) (v : t.V) (w : (t.set false).V), t.np = true → HEq v w → lstD (enc t v) = enc (t.set false) w
  | .int, v, w, _, h => by cases h; simp [enc, Ty.set, lstD]
  | .bl, v, w, _, h => by cases h; simp [enc, Ty.set, lstD]
  | .nm, v, w, _, h => by cases h; simp [enc, Ty.set, lstD]
  | .non, v, w, _, h => by cases h; simp [enc, Ty.set, lstD]
  | .seq g t, v, w, z, h => by
    obtain ⟨⟨h0, rfl⟩, z⟩ := np_seq z
    show lstD (sq h0 (v.map (enc t))) = .lst (List.map (enc (t.set false)) w)
    rw [lstD_sq, List.map_map]
    exact congrArg D.lst (map_heq (set_V false t).symm (fun a b q => lstD_enc t a b z q) h)
  | .pr g s t, v, w, z, h => by
    obtain ⟨z1, z2⟩ := np_pr z
    obtain ⟨h1, h2⟩ := prod_heq (set_V false s).symm (set_V false t).symm h
    show lstD (sq g [enc s v.1, enc t v.2]) = .lst [enc (s.set false) w.1, enc (t.set false) w.2]
    rw [lstD_sq]
    simp only [List.map_cons, List.map_nil, lstD_enc s _ _ z1 h1, lstD_enc t _ _ z2 h2]
  | .tr g r s t, v, w, z, h => by
    obtain ⟨z1, z2, z3⟩ := np_tr z
    have e : ((s.set false).V × (t.set false).V) = (s.V × t.V) := by rw [set_V, set_V]
    obtain ⟨h1, h2⟩ := prod_heq (set_V false r).symm e.symm h
    obtain ⟨h2, h3⟩ := prod_heq (set_V false s).symm (set_V false t).symm h2
    show lstD (sq g [enc r v.1, enc s v.2.1, enc t v.2.2]) = .lst [enc (r.set false) w.1, enc (s.set false) w.2.1, enc (t.set false) w.2.2]
    rw [lstD_sq]
    simp only [List.map_cons, List.map_nil, lstD_enc r _ _ z1 h1, lstD_enc s _ _ z2 h2, lstD_enc t _ _ z3 h3]
theorem w_lists {g : Bool} (t : Ty) {b : List Nat} {v : List t.V} {w : List (t.set false).V} (hp : t.np = true) (gv : Good (.seq (.b g) t) b v) (hd : t.dp ≤ 10) (hz : (b.all (· < lim)) = true) (hw : HEq v w) : den__law_lists 12 [.val (sq g (v.map (enc t)))] = .ok (.o (.l (w.map (enc (t.set false))))) [.no] := by
  have h1 := lists_ok 11 (sq g (v.map (enc t))) (enc_okS (.seq (.b g) t) hp gv (by simp only [Ty.dp]; omega) hz)
  rw [h1]
  have e := lstD_enc (.seq (.b g) t) v w hp hw
  have e : lstD (sq g (v.map (enc t))) = .lst (w.map (enc (t.set false))) := e
  cases g
  · show DR.ok (.o (.l (lstDL (v.map (enc t))))) _ = _
    have e : D.lst (lstDL (v.map (enc t))) = .lst (w.map (enc (t.set false))) := e
    injection e with e
    rw [e]
  · show DR.ok (.o (.l (lstDL (v.map (enc t))))) _ = _
    have e : D.lst (lstDL (v.map (enc t))) = .lst (w.map (enc (t.set false))) := e
    injection e with e
    rw [e]
/-! of a plain tuple -/
theorem w_tupledP (t : Ty) {n : Nat} {b : List Nat} {v : List t.V} {w : List (t.set true).V} (hp : t.np = true) (g : Good (.seq .p t) (n :: b) v) (hd : t.dp ≤ 10) (hz : ((n :: b).all (· < lim)) = true) (hw : HEq v w) : den_tupled 12 [.val (.ptp (v.map (enc t)))] = .ok (.d (.tup (w.map (enc (t.set true))))) [.no] := by
  have zn : n < lim := of_decide_eq_true (List.all_eq_true.mp hz n (List.mem_cons_self ..))
  have zb : (b.all (· < lim)) = true := List.all_eq_true.mpr fun x hx => List.all_eq_true.mp hz x (List.mem_cons_of_mem _ hx)
  rw [tupled_ptp (n := 10) (by rw [List.length_map]; exact Nat.lt_of_le_of_lt g.1 zn) (fun x hx => by obtain ⟨r, hr, rfl⟩ := List.mem_map.mp hx; exact enc_okS t hp (g.2 r hr) hd zb), List.map_map]
  congr 3
  exact map_heq (set_V true t).symm (fun a c q => tupD_enc t a c hp q) hw
theorem w_tupledK {k : Kd} (t : Ty) {n : Nat} {b : List Nat} {v : List t.V} {w : List (t.set true).V} (hp : t.np = true) (g : Good (.seq k t) (n :: b) v) (hd : t.dp ≤ 10) (hz : ((n :: b).all (· < lim)) = true) (hw : HEq v w) : den_tupled 12 [.val (sk k (v.map (enc t)))] = .ok (.d (.tup (w.map (enc (t.set true))))) [.no] := by
  cases k with
  | p => exact w_tupledP t hp g hd hz hw
  | b h => exact w_tupled (.seq (.b h) t) (v := v) (w := w) hp g (by simp only [Ty.dp]; omega) hz hw
theorem w_listsP (t : Ty) {n : Nat} {b : List Nat} {v : List t.V} {w : List (t.set false).V} (hp : t.np = true) (g : Good (.seq .p t) (n :: b) v) (hd : t.dp ≤ 10) (hz : ((n :: b).all (· < lim)) = true) (hw : HEq v w) : den__law_lists 12 [.val (.ptp (v.map (enc t)))] = .ok (.o (.l (w.map (enc (t.set false))))) [.no] := by
  have zn : n < lim := of_decide_eq_true (List.all_eq_true.mp hz n (List.mem_cons_self ..))
  have zb : (b.all (· < lim)) = true := List.all_eq_true.mpr fun x hx => List.all_eq_true.mp hz x (List.mem_cons_of_mem _ hx)
  show run 1 (f__law_lists (den__law_lists 11)) [.val (.ptp (v.map (enc t)))] = _
  have hc : compL (c0__law_lists (den__law_lists 11)) (v.map (enc t)) [.val (.ptp (v.map (enc t))), .no] [] = .ok (v.map fun x => lstD (enc t x)) [.val (.ptp (v.map (enc t))), .no] :=
    compL_over v (fun r hr => by
      have e := lists_ok 10 (enc t r) (enc_okS t hp (g.2 r hr) hd zb)
      have e2 : (lstR (enc t r)).toD = lstD (enc t r) := lstR_D _
      generalize lstR (enc t r) = q at e e2
      generalize den__law_lists 11 = dn at e ⊢
      simp only [c0__law_lists, evl, evl2, evl3, evl4, prim, slotsE, if_true, e, nd0, e2]) (Nat.le_of_lt (Nat.lt_of_le_of_lt g.1 zn))
  have em : (v.map fun x => lstD (enc t x)) = w.map (enc (t.set false)) := map_heq (set_V false t).symm (fun a c q => lstD_enc t a c hp q) hw
  rw [em] at hc
  have it : (D.ptp (v.map (enc t))).items = some (v.map (enc t)) := rfl
  have ty : (D.ptp (v.map (enc t))).ty = some "tuple" := rfl
  rw [nE__law_lists]
  generalize c0__law_lists (den__law_lists 11) = cc at hc ⊢
  simp only [evl, evl2, evl3, evl4, evl6, prim, slotsE, tyE, isE, if_true, it, ty, hc]
end U
end

section
set_option Elab.async false
set_option linter.all false
set_option maxRecDepth 100000
set_option maxHeartbeats 0
namespace U
open PySem PySem.Spec PyProof.Rows L2
def p_units (a0 : List ((List Nat) × (List (List (List Nat))))) : List (List Nat) := (a0.map (fun (x1 : (List Nat) × (List (List (List Nat)))) => x1.1))
theorem w_units {h0 : Bool} {k0 : Kd} {a0 : List ((List Nat) × (List (List (List Nat))))} (g00 : Good (.seq k0 (.pr h0 .nm (.seq (.b h0) (.seq (.b h0) .nm)))) [9, 12, 8] a0) : den_units [.val (sk k0 (a0.map (enc (.pr h0 .nm (.seq (.b h0) (.seq (.b h0) .nm))))))] = .ok (.d (.tup ((p_units a0).map (enc .nm)))) [.no] ∧ Good (.seq (.b true) .nm) [9] (p_units a0) := by
  have hc5 : compL c0_units (a0.map (enc (.pr h0 .nm (.seq (.b h0) (.seq (.b h0) .nm))))) [.val (sk k0 (a0.map (enc (.pr h0 .nm (.seq (.b h0) (.seq (.b h0) .nm)))))), .no, .no] [] = .ok ((a0.map (fun (x1 : (List Nat) × (List (List (List Nat)))) => x1.1)).map (enc .nm)) [.val (sk k0 (a0.map (enc (.pr h0 .nm (.seq (.b h0) (.seq (.b h0) .nm)))))), .no, .no] := by
    refine cp_map (t := .nm) (h := (fun (x1 : (List Nat) × (List (List (List Nat)))) => x1.1)) a0 (Nat.le_trans g00.1 (by decide)) fun x1 hx2 => ?_
    have g3 : Good (.pr h0 .nm (.seq (.b h0) (.seq (.b h0) .nm))) [12, 8] x1 := gd_mem (h := k0) g00 hx2
    have g4 : Good .nm [] x1.1 := g3.1
    show c0_units (sq h0 [(.str x1.1), (sq h0 (x1.2.map (enc (.seq (.b h0) .nm))))]) _ = _
    simp only [c0_units, star_eq, evl, evl2, evl3, evl4, evl6, evl7, evl8, evl9, evl10, evl11, evl12, prim, slotsE, if_true, nd0, toD_l, t_sq, sq_gTp, List.length_cons, List.length_nil, Nat.reduceAdd, limE, Bool.false_bne, Bool.true_bne, Bool.not_true, Bool.not_false, Bool.false_eq_true, if_false, Bool.and_true, Bool.true_and, Bool.and_false, Bool.false_and, Bool.or_true, Bool.true_or, Bool.or_false, Bool.false_or] <;> first | done | rfl
  have f6 : (D.items (sk k0 (a0.map (enc (.pr h0 .nm (.seq (.b h0) (.seq (.b h0) .nm))))))) = some (a0.map (enc (.pr h0 .nm (.seq (.b h0) (.seq (.b h0) .nm))))) := t_items (t := (.pr h0 .nm (.seq (.b h0) (.seq (.b h0) .nm)))) (k := k0) a0
  have g7 : Good (.seq (.b false) .nm) [9] (a0.map (fun (x1 : (List Nat) × (List (List (List Nat)))) => x1.1)) := by
    refine gd_map (Nat.le_trans g00.1 (Nat.le_refl _)) fun x1 hx2 => ?_
    have g3 : Good (.pr h0 .nm (.seq (.b h0) (.seq (.b h0) .nm))) [12, 8] x1 := gd_mem (h := k0) g00 hx2
    have g4 : Good .nm [] x1.1 := g3.1
    exact g4
  have f8 : gTuple (.lst ((a0.map (fun (x1 : (List Nat) × (List (List (List Nat)))) => x1.1)).map (enc .nm))) = some (.d (.tup ((a0.map (fun (x1 : (List Nat) × (List (List (List Nat)))) => x1.1)).map (enc .nm)))) := t_tuple (t := .nm) (h := false) (a0.map (fun (x1 : (List Nat) × (List (List (List Nat)))) => x1.1))
  refine ⟨?_, g7.mono (by decide)⟩
  unfold p_units
  show DR.of (f_units [.val (sk k0 (a0.map (enc (.pr h0 .nm (.seq (.b h0) (.seq (.b h0) .nm)))))), .no, .no]) [.val (sk k0 (a0.map (enc (.pr h0 .nm (.seq (.b h0) (.seq (.b h0) .nm))))))] = _
  rw [nE_units]
  simp only [star_eq, evl, evl2, evl3, evl4, evl6, evl7, evl8, evl9, evl10, evl11, evl12, prim, slotsE, if_true, nd0, toD_l, t_sq, sq_gTp, List.length_cons, List.length_nil, Nat.reduceAdd, limE, Bool.false_bne, Bool.true_bne, Bool.not_true, Bool.not_false, Bool.false_eq_true, if_false, Bool.and_true, Bool.true_and, Bool.and_false, Bool.false_and, Bool.or_true, Bool.true_or, Bool.or_false, Bool.false_or, hc5, f6, f8] <;> first | done | rfl
def p_without (a0 : List (List Nat)) (a1 : List Nat) : List (List Nat) := (a0.filter fun (x1 : List Nat) => (!decide (x1 = a1)))
theorem w_without {a0 : List (List Nat)} {a1 : List Nat} (g00 : Good (.seq (.b true) .nm) [9] a0) (g01 : Good .nm [] a1) : den_without [.val (.tup (a0.map (enc .nm))), .val (.str a1)] = .ok (.d (.tup ((p_without a0 a1).map (enc .nm)))) [.no, .no] ∧ Good (.seq (.b true) .nm) [9] (p_without a0 a1) := by
  have hc5 : compL c0_without (a0.map (enc .nm)) [.val (.tup (a0.map (enc .nm))), .val (.str a1), .no] [] = .ok ((a0.filter fun (x1 : List Nat) => (!decide (x1 = a1))).map (enc .nm)) [.val (.tup (a0.map (enc .nm))), .val (.str a1), .no] := by
    refine cp_fid (t := .nm) (q := fun (x1 : List Nat) => (!decide (x1 = a1))) a0 (Nat.le_trans g00.1 (by decide)) fun x1 hx2 => ?_
    have g3 : Good .nm [] x1 := gd_mem (h := (.b true)) g00 hx2
    have f4 : gEq true (.str x1) (.str a1) = some (.d (.bl (!decide (x1 = a1)))) := t_eq1 (t := .nm) rfl g3 g01 (by first | decide | (simp only [Ty.dp]; decide))
    show c0_without (.str x1) _ = _
    generalize (decide (x1 = a1)) = b6 at f4 ⊢
    cases b6 <;> (simp only [c0_without, star_eq, evl, evl2, evl3, evl4, evl6, evl7, evl8, evl9, evl10, evl11, evl12, prim, slotsE, if_true, nd0, toD_l, t_sq, sq_gTp, List.length_cons, List.length_nil, Nat.reduceAdd, limE, Bool.false_bne, Bool.true_bne, Bool.not_true, Bool.not_false, Bool.false_eq_true, if_false, Bool.and_true, Bool.true_and, Bool.and_false, Bool.false_and, Bool.or_true, Bool.true_or, Bool.or_false, Bool.false_or, f4] <;> first | done | rfl)
  have f7 : (D.items (.tup (a0.map (enc .nm)))) = some (a0.map (enc .nm)) := t_items (t := .nm) (k := (.b true)) a0
  have g8 : Good (.seq (.b false) .nm) [9] (a0.filter fun (x1 : List Nat) => (!decide (x1 = a1))) := (gd_filter (h' := .b false) g00)
  have f9 : gTuple (.lst ((a0.filter fun (x1 : List Nat) => (!decide (x1 = a1))).map (enc .nm))) = some (.d (.tup ((a0.filter fun (x1 : List Nat) => (!decide (x1 = a1))).map (enc .nm)))) := t_tuple (t := .nm) (h := false) (a0.filter fun (x1 : List Nat) => (!decide (x1 = a1)))
  refine ⟨?_, g8.mono (by decide)⟩
  unfold p_without
  show DR.of (f_without [.val (.tup (a0.map (enc .nm))), .val (.str a1), .no]) [.val (.tup (a0.map (enc .nm))), .val (.str a1)] = _
  rw [nE_without]
  simp only [star_eq, evl, evl2, evl3, evl4, evl6, evl7, evl8, evl9, evl10, evl11, evl12, prim, slotsE, if_true, nd0, toD_l, t_sq, sq_gTp, List.length_cons, List.length_nil, Nat.reduceAdd, limE, Bool.false_bne, Bool.true_bne, Bool.not_true, Bool.not_false, Bool.false_eq_true, if_false, Bool.and_true, Bool.true_and, Bool.and_false, Bool.false_and, Bool.or_true, Bool.true_or, Bool.or_false, Bool.false_or, hc5, f7, f9] <;> first | done | rfl
def p__law_come (a0 : List ((List Nat) × (List (List (List Nat))))) (a1 : List (List Nat)) : List (List Nat) := ((a0.filter fun (x1 : (List Nat) × (List (List (List Nat)))) => ((!inB x1.1 a1) && (!(x1.2.filter fun (x6 : List (List Nat)) => ((x6.filter fun (x9 : List Nat) => (!inB x9 a1)).isEmpty)).isEmpty))).map (fun (x1 : (List Nat) × (List (List (List Nat)))) => x1.1))
theorem w__law_come {a0 : List ((List Nat) × (List (List (List Nat))))} {a1 : List (List Nat)} (g00 : Good (.seq (.b true) (.pr true .nm (.seq (.b true) (.seq (.b true) .nm)))) [9, 12, 8] a0) (g01 : Good (.seq (.b true) .nm) [9] a1) : den__law_come [.val (.tup (a0.map (enc (.pr true .nm (.seq (.b true) (.seq (.b true) .nm)))))), .val (.tup (a1.map (enc .nm)))] = .ok (.o (.l ((p__law_come a0 a1).map (enc .nm)))) [.no, .no] ∧ Good (.seq (.b false) .nm) [9] (p__law_come a0 a1) := by
  have hc25 : compL c2__law_come (a0.map (enc (.pr true .nm (.seq (.b true) (.seq (.b true) .nm))))) [.val (.tup (a0.map (enc (.pr true .nm (.seq (.b true) (.seq (.b true) .nm)))))), .val (.tup (a1.map (enc .nm))), .no, .no, .no, .no] [] = .ok (((a0.filter fun (x1 : (List Nat) × (List (List (List Nat)))) => ((!inB x1.1 a1) && (!(x1.2.filter fun (x6 : List (List Nat)) => ((x6.filter fun (x9 : List Nat) => (!inB x9 a1)).isEmpty)).isEmpty))).map (fun (x1 : (List Nat) × (List (List (List Nat)))) => x1.1)).map (enc .nm)) [.val (.tup (a0.map (enc (.pr true .nm (.seq (.b true) (.seq (.b true) .nm)))))), .val (.tup (a1.map (enc .nm))), .no, .no, .no, .no] := by
    refine cp_filt (t := .nm) (h := (fun (x1 : (List Nat) × (List (List (List Nat)))) => x1.1)) (q := fun (x1 : (List Nat) × (List (List (List Nat)))) => ((!inB x1.1 a1) && (!(x1.2.filter fun (x6 : List (List Nat)) => ((x6.filter fun (x9 : List Nat) => (!inB x9 a1)).isEmpty)).isEmpty))) a0 (Nat.le_trans g00.1 (by decide)) fun x1 hx2 => ?_
    have g3 : Good (.pr true .nm (.seq (.b true) (.seq (.b true) .nm))) [12, 8] x1 := gd_mem (h := (.b true)) g00 hx2
    have g4 : Good .nm [] x1.1 := g3.1
    have f5 : gIn true (.str x1.1) (.tup (a1.map (enc .nm))) = some (.d (.bl (!inB x1.1 a1))) := t_in1 (t := .nm) (h := true) rfl g4 g01 (by first | decide | (simp only [Ty.dp]; decide))
    have hc19 : compL c1__law_come (x1.2.map (enc (.seq (.b true) .nm))) [.val (.tup (a0.map (enc (.pr true .nm (.seq (.b true) (.seq (.b true) .nm)))))), .val (.tup (a1.map (enc .nm))), .val (.str x1.1), .val (.tup (x1.2.map (enc (.seq (.b true) .nm)))), .no, .no] [] = .ok ((x1.2.filter fun (x6 : List (List Nat)) => ((x6.filter fun (x9 : List Nat) => (!inB x9 a1)).isEmpty)).map (enc (.seq (.b true) .nm))) [.val (.tup (a0.map (enc (.pr true .nm (.seq (.b true) (.seq (.b true) .nm)))))), .val (.tup (a1.map (enc .nm))), .val (.str x1.1), .val (.tup (x1.2.map (enc (.seq (.b true) .nm)))), .no, .no] := by
      refine cp_fid (t := (.seq (.b true) .nm)) (q := fun (x6 : List (List Nat)) => ((x6.filter fun (x9 : List Nat) => (!inB x9 a1)).isEmpty)) x1.2 (Nat.le_trans g3.2.1 (by decide)) fun x6 hx7 => ?_
      have g8 : Good (.seq (.b true) .nm) [8] x6 := gd_mem (h := (.b true)) g3.2 hx7
      have hc13 : compL c0__law_come (x6.map (enc .nm)) [.val (.tup (a0.map (enc (.pr true .nm (.seq (.b true) (.seq (.b true) .nm)))))), .val (.tup (a1.map (enc .nm))), .val (.str x1.1), .val (.tup (x1.2.map (enc (.seq (.b true) .nm)))), .val (.tup (x6.map (enc .nm))), .no] [] = .ok ((x6.filter fun (x9 : List Nat) => (!inB x9 a1)).map (enc .nm)) [.val (.tup (a0.map (enc (.pr true .nm (.seq (.b true) (.seq (.b true) .nm)))))), .val (.tup (a1.map (enc .nm))), .val (.str x1.1), .val (.tup (x1.2.map (enc (.seq (.b true) .nm)))), .val (.tup (x6.map (enc .nm))), .no] := by
        refine cp_fid (t := .nm) (q := fun (x9 : List Nat) => (!inB x9 a1)) x6 (Nat.le_trans g8.1 (by decide)) fun x9 hx10 => ?_
        have g11 : Good .nm [] x9 := gd_mem (h := (.b true)) g8 hx10
        have f12 : gIn true (.str x9) (.tup (a1.map (enc .nm))) = some (.d (.bl (!inB x9 a1))) := t_in1 (t := .nm) (h := true) rfl g11 g01 (by first | decide | (simp only [Ty.dp]; decide))
        show c0__law_come (.str x9) _ = _
        generalize (inB x9 a1) = b14 at f12 ⊢
        cases b14 <;> (simp only [c0__law_come, star_eq, evl, evl2, evl3, evl4, evl6, evl7, evl8, evl9, evl10, evl11, evl12, prim, slotsE, if_true, nd0, toD_l, t_sq, sq_gTp, List.length_cons, List.length_nil, Nat.reduceAdd, limE, Bool.false_bne, Bool.true_bne, Bool.not_true, Bool.not_false, Bool.false_eq_true, if_false, Bool.and_true, Bool.true_and, Bool.and_false, Bool.false_and, Bool.or_true, Bool.true_or, Bool.or_false, Bool.false_or, f12] <;> first | done | rfl)
      have f15 : (D.items (.tup (x6.map (enc .nm)))) = some (x6.map (enc .nm)) := t_items (t := .nm) (k := (.b true)) x6
      have g16 : Good (.seq (.b false) .nm) [8] (x6.filter fun (x9 : List Nat) => (!inB x9 a1)) := (gd_filter (h' := .b false) g8)
      have f17 : (([] : List D).length ≤ lim) = True := eq_true (by decide)
      have f18 : gEq false (.lst ((x6.filter fun (x9 : List Nat) => (!inB x9 a1)).map (enc .nm))) (.lst []) = some (.d (.bl ((x6.filter fun (x9 : List Nat) => (!inB x9 a1)).isEmpty))) := t_nil0 (t := .nm) (k := .b false) rfl g16 (by first | decide | (simp only [Ty.dp]; decide))
      show c1__law_come (.tup (x6.map (enc .nm))) _ = _
      generalize (((x6.filter fun (x9 : List Nat) => (!inB x9 a1)).isEmpty)) = b20 at hc13 f15 f17 f18 ⊢
      cases b20 <;> (simp only [c1__law_come, star_eq, evl, evl2, evl3, evl4, evl6, evl7, evl8, evl9, evl10, evl11, evl12, prim, slotsE, if_true, nd0, toD_l, t_sq, sq_gTp, List.length_cons, List.length_nil, Nat.reduceAdd, limE, Bool.false_bne, Bool.true_bne, Bool.not_true, Bool.not_false, Bool.false_eq_true, if_false, Bool.and_true, Bool.true_and, Bool.and_false, Bool.false_and, Bool.or_true, Bool.true_or, Bool.or_false, Bool.false_or, hc13, f15, f17, f18] <;> first | done | rfl)
    have f21 : (D.items (.tup (x1.2.map (enc (.seq (.b true) .nm))))) = some (x1.2.map (enc (.seq (.b true) .nm))) := t_items (t := (.seq (.b true) .nm)) (k := (.b true)) x1.2
    have g22 : Good (.seq (.b false) (.seq (.b true) .nm)) [12, 8] (x1.2.filter fun (x6 : List (List Nat)) => ((x6.filter fun (x9 : List Nat) => (!inB x9 a1)).isEmpty)) := (gd_filter (h' := .b false) g3.2)
    have f23 : (([] : List D).length ≤ lim) = True := eq_true (by decide)
    have f24 : gEq true (.lst ((x1.2.filter fun (x6 : List (List Nat)) => ((x6.filter fun (x9 : List Nat) => (!inB x9 a1)).isEmpty)).map (enc (.seq (.b true) .nm)))) (.lst []) = some (.d (.bl (!(x1.2.filter fun (x6 : List (List Nat)) => ((x6.filter fun (x9 : List Nat) => (!inB x9 a1)).isEmpty)).isEmpty))) := t_nil1 (t := (.seq (.b true) .nm)) (k := .b false) rfl g22 (by first | decide | (simp only [Ty.dp]; decide))
    show c2__law_come (.tup [(.str x1.1), (.tup (x1.2.map (enc (.seq (.b true) .nm))))]) _ = _
    generalize (inB x1.1 a1) = b26 at f5 ⊢
    generalize ((x1.2.filter fun (x6 : List (List Nat)) => ((x6.filter fun (x9 : List Nat) => (!inB x9 a1)).isEmpty)).isEmpty) = b27 at hc19 f21 f23 f24 ⊢
    cases b26 <;> cases b27 <;> (simp only [c2__law_come, star_eq, evl, evl2, evl3, evl4, evl6, evl7, evl8, evl9, evl10, evl11, evl12, prim, slotsE, if_true, nd0, toD_l, t_sq, sq_gTp, List.length_cons, List.length_nil, Nat.reduceAdd, limE, Bool.false_bne, Bool.true_bne, Bool.not_true, Bool.not_false, Bool.false_eq_true, if_false, Bool.and_true, Bool.true_and, Bool.and_false, Bool.false_and, Bool.or_true, Bool.true_or, Bool.or_false, Bool.false_or, f5, hc19, f21, f23, f24] <;> first | done | rfl)
  have f28 : (D.items (.tup (a0.map (enc (.pr true .nm (.seq (.b true) (.seq (.b true) .nm))))))) = some (a0.map (enc (.pr true .nm (.seq (.b true) (.seq (.b true) .nm))))) := t_items (t := (.pr true .nm (.seq (.b true) (.seq (.b true) .nm)))) (k := (.b true)) a0
  have g29 : Good (.seq (.b false) .nm) [9] ((a0.filter fun (x1 : (List Nat) × (List (List (List Nat)))) => ((!inB x1.1 a1) && (!(x1.2.filter fun (x6 : List (List Nat)) => ((x6.filter fun (x9 : List Nat) => (!inB x9 a1)).isEmpty)).isEmpty))).map (fun (x1 : (List Nat) × (List (List (List Nat)))) => x1.1)) := by
    refine gd_map (Nat.le_trans (gd_filter (h' := .b false) g00).1 (Nat.le_refl _)) fun x1 hx20 => ?_
    have hx2 := (List.mem_filter.mp hx20).1
    have g3 : Good (.pr true .nm (.seq (.b true) (.seq (.b true) .nm))) [12, 8] x1 := gd_mem (h := (.b true)) g00 hx2
    have g4 : Good .nm [] x1.1 := g3.1
    have f5 : gIn true (.str x1.1) (.tup (a1.map (enc .nm))) = some (.d (.bl (!inB x1.1 a1))) := t_in1 (t := .nm) (h := true) rfl g4 g01 (by first | decide | (simp only [Ty.dp]; decide))
    have hc19 : compL c1__law_come (x1.2.map (enc (.seq (.b true) .nm))) [.val (.tup (a0.map (enc (.pr true .nm (.seq (.b true) (.seq (.b true) .nm)))))), .val (.tup (a1.map (enc .nm))), .val (.str x1.1), .val (.tup (x1.2.map (enc (.seq (.b true) .nm)))), .no, .no] [] = .ok ((x1.2.filter fun (x6 : List (List Nat)) => ((x6.filter fun (x9 : List Nat) => (!inB x9 a1)).isEmpty)).map (enc (.seq (.b true) .nm))) [.val (.tup (a0.map (enc (.pr true .nm (.seq (.b true) (.seq (.b true) .nm)))))), .val (.tup (a1.map (enc .nm))), .val (.str x1.1), .val (.tup (x1.2.map (enc (.seq (.b true) .nm)))), .no, .no] := by
      refine cp_fid (t := (.seq (.b true) .nm)) (q := fun (x6 : List (List Nat)) => ((x6.filter fun (x9 : List Nat) => (!inB x9 a1)).isEmpty)) x1.2 (Nat.le_trans g3.2.1 (by decide)) fun x6 hx7 => ?_
      have g8 : Good (.seq (.b true) .nm) [8] x6 := gd_mem (h := (.b true)) g3.2 hx7
      have hc13 : compL c0__law_come (x6.map (enc .nm)) [.val (.tup (a0.map (enc (.pr true .nm (.seq (.b true) (.seq (.b true) .nm)))))), .val (.tup (a1.map (enc .nm))), .val (.str x1.1), .val (.tup (x1.2.map (enc (.seq (.b true) .nm)))), .val (.tup (x6.map (enc .nm))), .no] [] = .ok ((x6.filter fun (x9 : List Nat) => (!inB x9 a1)).map (enc .nm)) [.val (.tup (a0.map (enc (.pr true .nm (.seq (.b true) (.seq (.b true) .nm)))))), .val (.tup (a1.map (enc .nm))), .val (.str x1.1), .val (.tup (x1.2.map (enc (.seq (.b true) .nm)))), .val (.tup (x6.map (enc .nm))), .no] := by
        refine cp_fid (t := .nm) (q := fun (x9 : List Nat) => (!inB x9 a1)) x6 (Nat.le_trans g8.1 (by decide)) fun x9 hx10 => ?_
        have g11 : Good .nm [] x9 := gd_mem (h := (.b true)) g8 hx10
        have f12 : gIn true (.str x9) (.tup (a1.map (enc .nm))) = some (.d (.bl (!inB x9 a1))) := t_in1 (t := .nm) (h := true) rfl g11 g01 (by first | decide | (simp only [Ty.dp]; decide))
        show c0__law_come (.str x9) _ = _
        generalize (inB x9 a1) = b14 at f12 ⊢
        cases b14 <;> (simp only [c0__law_come, star_eq, evl, evl2, evl3, evl4, evl6, evl7, evl8, evl9, evl10, evl11, evl12, prim, slotsE, if_true, nd0, toD_l, t_sq, sq_gTp, List.length_cons, List.length_nil, Nat.reduceAdd, limE, Bool.false_bne, Bool.true_bne, Bool.not_true, Bool.not_false, Bool.false_eq_true, if_false, Bool.and_true, Bool.true_and, Bool.and_false, Bool.false_and, Bool.or_true, Bool.true_or, Bool.or_false, Bool.false_or, f12] <;> first | done | rfl)
      have f15 : (D.items (.tup (x6.map (enc .nm)))) = some (x6.map (enc .nm)) := t_items (t := .nm) (k := (.b true)) x6
      have g16 : Good (.seq (.b false) .nm) [8] (x6.filter fun (x9 : List Nat) => (!inB x9 a1)) := (gd_filter (h' := .b false) g8)
      have f17 : (([] : List D).length ≤ lim) = True := eq_true (by decide)
      have f18 : gEq false (.lst ((x6.filter fun (x9 : List Nat) => (!inB x9 a1)).map (enc .nm))) (.lst []) = some (.d (.bl ((x6.filter fun (x9 : List Nat) => (!inB x9 a1)).isEmpty))) := t_nil0 (t := .nm) (k := .b false) rfl g16 (by first | decide | (simp only [Ty.dp]; decide))
      show c1__law_come (.tup (x6.map (enc .nm))) _ = _
      generalize (((x6.filter fun (x9 : List Nat) => (!inB x9 a1)).isEmpty)) = b20 at hc13 f15 f17 f18 ⊢
      cases b20 <;> (simp only [c1__law_come, star_eq, evl, evl2, evl3, evl4, evl6, evl7, evl8, evl9, evl10, evl11, evl12, prim, slotsE, if_true, nd0, toD_l, t_sq, sq_gTp, List.length_cons, List.length_nil, Nat.reduceAdd, limE, Bool.false_bne, Bool.true_bne, Bool.not_true, Bool.not_false, Bool.false_eq_true, if_false, Bool.and_true, Bool.true_and, Bool.and_false, Bool.false_and, Bool.or_true, Bool.true_or, Bool.or_false, Bool.false_or, hc13, f15, f17, f18] <;> first | done | rfl)
    have f21 : (D.items (.tup (x1.2.map (enc (.seq (.b true) .nm))))) = some (x1.2.map (enc (.seq (.b true) .nm))) := t_items (t := (.seq (.b true) .nm)) (k := (.b true)) x1.2
    have g22 : Good (.seq (.b false) (.seq (.b true) .nm)) [12, 8] (x1.2.filter fun (x6 : List (List Nat)) => ((x6.filter fun (x9 : List Nat) => (!inB x9 a1)).isEmpty)) := (gd_filter (h' := .b false) g3.2)
    have f23 : (([] : List D).length ≤ lim) = True := eq_true (by decide)
    have f24 : gEq true (.lst ((x1.2.filter fun (x6 : List (List Nat)) => ((x6.filter fun (x9 : List Nat) => (!inB x9 a1)).isEmpty)).map (enc (.seq (.b true) .nm)))) (.lst []) = some (.d (.bl (!(x1.2.filter fun (x6 : List (List Nat)) => ((x6.filter fun (x9 : List Nat) => (!inB x9 a1)).isEmpty)).isEmpty))) := t_nil1 (t := (.seq (.b true) .nm)) (k := .b false) rfl g22 (by first | decide | (simp only [Ty.dp]; decide))
    exact g4
  refine ⟨?_, g29.mono (by decide)⟩
  unfold p__law_come
  show DR.of (f__law_come [.val (.tup (a0.map (enc (.pr true .nm (.seq (.b true) (.seq (.b true) .nm)))))), .val (.tup (a1.map (enc .nm))), .no, .no, .no, .no]) [.val (.tup (a0.map (enc (.pr true .nm (.seq (.b true) (.seq (.b true) .nm)))))), .val (.tup (a1.map (enc .nm)))] = _
  rw [nE__law_come]
  simp only [star_eq, evl, evl2, evl3, evl4, evl6, evl7, evl8, evl9, evl10, evl11, evl12, prim, slotsE, if_true, nd0, toD_l, t_sq, sq_gTp, List.length_cons, List.length_nil, Nat.reduceAdd, limE, Bool.false_bne, Bool.true_bne, Bool.not_true, Bool.not_false, Bool.false_eq_true, if_false, Bool.and_true, Bool.true_and, Bool.and_false, Bool.false_and, Bool.or_true, Bool.true_or, Bool.or_false, Bool.false_or, hc25, f28] <;> first | done | rfl
end U
end

section
set_option Elab.async false
set_option linter.all false
set_option maxRecDepth 100000
namespace U
open PySem PySem.Spec PyProof.Rows L2
/-! books -/
abbrev tRow (h : Bool) : Ty := .pr h .nm (.seq (.b h) (.seq (.b h) .nm))
abbrev BkV := List (List Nat × List (List (List Nat)))
abbrev tSt : Ty := .seq (.b true) .nm
theorem forL_exc {body : D → T → SR} {d : D} {ds : List D} {τ t : T} {x : Ex} (h : body d τ = .exc x t) : forL body (d :: ds) τ = .exc x t := by
  show (match body d τ with
    | .nx τ' => forL body ds τ'
    | .ct τ' => forL body ds τ'
    | .bk τ' => .nx τ'
    | m => m) = _
  rw [h]
section
variable {k : Kd} {h h1 : Bool} {b : BkV} {s : List (List Nat)}
theorem nms_good {n : Nat} {x : List Nat} (g : Good (.seq (.b h1) .nm) [n] s) (hx : x ∈ s) : Good .nm [] x := g.2 x hx
theorem chk_loop {m : Nat} {v0 v1 : Sl} {us : List (List Nat)} (gu : Good (.seq (.b true) .nm) [m] us) : ∀ (c : List (List Nat)) (s3 : Sl), (∀ x ∈ c, GN x) → (∀ x ∈ c, x ∈ us) → s3.free = true → ∃ t3, forL b0_check_units (c.map (enc .nm)) [v0, v1, .val (.tup (us.map (enc .nm))), s3] = .nx [v0, v1, .val (.tup (us.map (enc .nm))), t3]
  | [], s3, _, _, _ => ⟨s3, rfl⟩
  | x :: c, s3, gc, hc, f3 => by
    obtain ⟨t3, e⟩ := chk_loop gu c (.val (.str x)) (fun y hy => gc y (List.mem_cons_of_mem _ hy)) (fun y hy => hc y (List.mem_cons_of_mem _ hy)) rfl
    have gi : gIn true (.str x) (.tup (us.map (enc .nm))) = some (.d (.bl (!inB x us))) := t_in1 (t := .nm) (h := true) (b := []) rfl (gc x (List.mem_cons_self ..)) gu (by decide)
    rw [inB_iff.mpr (hc x (List.mem_cons_self ..))] at gi
    refine ⟨t3, ?_⟩
    rw [List.map_cons, forL_step (τ1 := [v0, v1, .val (.tup (us.map (enc .nm))), .val (.str x)])]
    · exact e
    · show b0_check_units (.str x) _ = _
      simp only [b0_check_units, evl, evl2, evl3, evl4, evl6, evl8, evl10, prim, slotsE, f3, if_true, gi, Bool.not_true, Bool.false_eq_true, if_false]
theorem chk_bad {m : Nat} {v0 v1 : Sl} {us : List (List Nat)} (gu : Good (.seq (.b true) .nm) [m] us) {x : List Nat} (gx : GN x) (hx : x ∉ us) (c2 : List (List Nat)) : ∀ (c : List (List Nat)) (s3 : Sl), (∀ x ∈ c, GN x) → (∀ x ∈ c, x ∈ us) → s3.free = true → ∃ t3, forL b0_check_units ((c ++ x :: c2).map (enc .nm)) [v0, v1, .val (.tup (us.map (enc .nm))), s3] = .exc ⟨0, [.str x]⟩ [v0, v1, .val (.tup (us.map (enc .nm))), t3]
  | [], s3, _, _, f3 => by
    have gi : gIn true (.str x) (.tup (us.map (enc .nm))) = some (.d (.bl (!inB x us))) := t_in1 (t := .nm) (h := true) (b := []) rfl gx gu (by decide)
    rw [inB_no.mpr hx] at gi
    refine ⟨.val (.str x), ?_⟩
    rw [List.nil_append, List.map_cons, forL_exc]
    show b0_check_units (.str x) _ = _
    simp only [b0_check_units, evl, evl2, evl3, evl4, evl6, evl8, evl10, prim, slotsE, f3, if_true, gi, Bool.not_false]
  | y :: c, s3, gc, hc, f3 => by
    obtain ⟨t3, e⟩ := chk_bad gu gx hx c2 c (.val (.str y)) (fun y hy => gc y (List.mem_cons_of_mem _ hy)) (fun y hy => hc y (List.mem_cons_of_mem _ hy)) rfl
    have gi : gIn true (.str y) (.tup (us.map (enc .nm))) = some (.d (.bl (!inB y us))) := t_in1 (t := .nm) (h := true) (b := []) rfl (gc y (List.mem_cons_self ..)) gu (by decide)
    rw [inB_iff.mpr (hc y (List.mem_cons_self ..))] at gi
    refine ⟨t3, ?_⟩
    rw [List.cons_append, List.map_cons, forL_step (τ1 := [v0, v1, .val (.tup (us.map (enc .nm))), .val (.str y)])]
    · exact e
    · show b0_check_units (.str y) _ = _
      simp only [b0_check_units, evl, evl2, evl3, evl4, evl6, evl8, evl10, prim, slotsE, f3, if_true, gi, Bool.not_true, Bool.false_eq_true, if_false]
theorem check_ok (gb : Good (.seq k (tRow h)) [9, 12, 8] b) (gs : ∀ x ∈ s, GN x) (hs : ∀ x ∈ s, x ∈ b.map (·.1)) : den_check_units [.val (sk k (b.map (enc (tRow h)))), .val (sq h1 (s.map (enc .nm)))] = .ok (.d .non) [.no, .no] := by
  have w := w_units (k0 := k) (h0 := h) (a0 := b) gb
  have e1 := w.1
  obtain ⟨t3, e⟩ := chk_loop (v0 := .val (sk k (b.map (enc (tRow h))))) (v1 := .val (sq h1 (s.map (enc .nm)))) w.2 s .no gs hs rfl
  have it : (sq h1 (s.map (enc .nm))).items = some (s.map (enc .nm)) := sq_items h1 _
  show DR.of (f_check_units [.val (sk k (b.map (enc (tRow h)))), .val (sq h1 (s.map (enc .nm))), .no, .no]) [.val (sk k (b.map (enc (tRow h)))), .val (sq h1 (s.map (enc .nm)))] = _
  rw [nE_check_units]
  simp only [evl, evl2, evl3, evl4, evl6, prim, slotsE, e1, nd0, if_true, it, e]
theorem check_no (gb : Good (.seq k (tRow h)) [9, 12, 8] b) {s2 : List (List Nat)} {x : List Nat} (gs : ∀ x ∈ s, GN x) (gx : GN x) (hs : ∀ x ∈ s, x ∈ b.map (·.1)) (hx : x ∉ b.map (·.1)) : den_check_units [.val (sk k (b.map (enc (tRow h)))), .val (sq h1 ((s ++ x :: s2).map (enc .nm)))] = .exc ⟨0, [.str x]⟩ [.no, .no] := by
  have w := w_units (k0 := k) (h0 := h) (a0 := b) gb
  have e1 := w.1
  obtain ⟨t3, e⟩ := chk_bad (v0 := .val (sk k (b.map (enc (tRow h))))) (v1 := .val (sq h1 ((s ++ x :: s2).map (enc .nm)))) w.2 gx hx s2 s .no gs hs rfl
  have it : (sq h1 ((s ++ x :: s2).map (enc .nm))).items = some ((s ++ x :: s2).map (enc .nm)) := sq_items h1 _
  show DR.of (f_check_units [.val (sk k (b.map (enc (tRow h)))), .val (sq h1 ((s ++ x :: s2).map (enc .nm))), .no, .no]) [.val (sk k (b.map (enc (tRow h)))), .val (sq h1 ((s ++ x :: s2).map (enc .nm)))] = _
  rw [nE_check_units]
  simp only [evl, evl2, evl3, evl4, evl6, evl8, prim, slotsE, e1, nd0, if_true, it, e]
/-! the table -/
abbrev tabK (b : BkV) : List D := b.map fun r => .str r.1
abbrev tabV (b : BkV) : List D := b.map fun r => enc (.seq (.b true) tSt) r.2
theorem table_ok (gb : Good (.seq k (tRow h)) [9, 12, 8] b) (nd : (b.map (·.1)).Nodup) : den_table_of [.val (sk k (b.map (enc (tRow h))))] = .ok (.o (.d false (tabK b) (tabV b))) [.no] := by
  have hc : compK d0_table_of (b.map (enc (tRow h))) [.val (sk k (b.map (enc (tRow h)))), .no, .no] [] = .ok (b.map fun r => (.str r.1, enc (.seq (.b true) tSt) r.2)) [.val (sk k (b.map (enc (tRow h)))), .no, .no] :=
    compK_new (k := fun r : List Nat × List (List (List Nat)) => .str r.1) (v := fun r => enc (.seq (.b true) tSt) r.2) b [] (fun r hr => by
      have g := gb.2 r hr
      have et : den_tupled 12 [.val (sq h (r.2.map (enc (.seq (.b h) .nm))))] = .ok (.d (enc (.seq (.b true) tSt) r.2)) [.no] := w_tupled (.seq (.b h) (.seq (.b h) .nm)) rfl g.2 (by first | decide | (simp only [Ty.dp]; decide)) (by decide) HEq.rfl
      show d0_table_of (sq h [.str r.1, sq h (r.2.map (enc (.seq (.b h) .nm)))]) _ = _
      simp only [d0_table_of, evl, evl2, evl3, evl4, evl7, prim, slotsE, sq_gTp, List.length_cons, List.length_nil, Nat.reduceAdd, if_true, et, nd0]) (fun r _ => rfl) (fun _ _ p hp => nomatch hp) (str_nodup nd) (by rw [List.length_nil]; exact lim_big (by have h9 : b.length ≤ 9 := gb.1; omega))
  have it : (sk k (b.map (enc (tRow h)))).items = some (b.map (enc (tRow h))) := t_items (t := tRow h) (k := k) b
  show DR.of (f_table_of [.val (sk k (b.map (enc (tRow h)))), .no, .no]) [.val (sk k (b.map (enc (tRow h))))] = _
  rw [nE_table_of]
  simp only [evl, evl2, evl3, evl4, evl6, evl7, prim, slotsE, if_true, it, hc, List.map_map]
  rfl
def nds (b : BkV) (x : List Nat) : List (List (List Nat)) := ofK [] b x
def letsB (b : BkV) (u : List (List Nat)) (x : List Nat) : Bool := !inB x u && (nds b x).any fun nd => nd.all fun y => inB y u
theorem nds_good (gb : Good (.seq k (tRow h)) [9, 12, 8] b) {x : List Nat} (hx : x ∈ b.map (·.1)) : Good (.seq (.b true) tSt) [12, 8] (nds b x) := by
  obtain ⟨r, hr, _, _, e⟩ := ofK_mem hx ([] : List (List (List Nat)))
  unfold nds
  rw [e]
  exact (gb.2 r hr).2
theorem lets_ok {n : Nat} (gb : Good (.seq k (tRow h)) [9, 12, 8] b) {u : List (List Nat)} (gu : Good (.seq (.b h1) .nm) [n] u) {x : List Nat} (gx : GN x) (hx : x ∈ b.map (·.1)) : den_lets [.val (.dct false (tabK b) (tabV b)), .val (sq h1 (u.map (enc .nm))), .val (.str x)] = .ok (.d (.bl (letsB b u x))) [.no, .no, .no] := by
  have gn := nds_good gb hx
  have gi : gIn true (.str x) (sq h1 (u.map (enc .nm))) = some (.d (.bl (!inB x u))) := t_in1 (t := .nm) (h := h1) (b := []) rfl gx gu (by decide)
  have ix : gIx (.dct false (tabK b) (tabV b)) (.str x) = some (.d (.tup ((nds b x).map (enc tSt)))) := dl_ix (enc (.seq (.b true) tSt)) hx []
  have hc : compL c1_lets ((nds b x).map (enc tSt)) [.val (.dct false (tabK b) (tabV b)), .val (sq h1 (u.map (enc .nm))), .val (.str x), .no, .no] [] = .ok ((nds b x).map fun nd => .bl (nd.all fun y => inB y u)) [.val (.dct false (tabK b) (tabV b)), .val (sq h1 (u.map (enc .nm))), .val (.str x), .no, .no] :=
    cp_bl (h := fun nd : List (List Nat) => nd.all fun y => inB y u) (nds b x) (Nat.le_trans gn.1 (by decide)) fun nd hn => by
      have g2 := gn.2 nd hn
      have hc : compL c0_lets (nd.map (enc .nm)) [.val (.dct false (tabK b) (tabV b)), .val (sq h1 (u.map (enc .nm))), .val (.str x), .val (.tup (nd.map (enc .nm))), .no] [] = .ok (nd.map fun y => .bl (inB y u)) [.val (.dct false (tabK b) (tabV b)), .val (sq h1 (u.map (enc .nm))), .val (.str x), .val (.tup (nd.map (enc .nm))), .no] :=
        cp_bl (h := fun y : List Nat => inB y u) nd (Nat.le_trans g2.1 (by decide)) fun y hy => by
          have gi : gIn false (.str y) (sq h1 (u.map (enc .nm))) = some (.d (.bl (inB y u))) := t_in0 (t := .nm) (h := h1) (b := []) rfl (g2.2 y hy) gu (by decide)
          show c0_lets (.str y) _ = _
          simp only [c0_lets, evl, evl2, evl3, evl4, prim, slotsE, if_true, gi]
      have ha := gAll_map (fun y => inB y u) nd
      have it : (D.tup (nd.map (enc .nm))).items = some (nd.map (enc .nm)) := rfl
      show c1_lets (.tup (nd.map (enc .nm))) _ = _
      simp only [c1_lets, evl, evl2, evl3, evl4, evl6, prim, slotsE, if_true, it, hc, toD_l, ha]
  have it : (D.tup ((nds b x).map (enc tSt))).items = some ((nds b x).map (enc tSt)) := rfl
  have ha := gAny_map (fun nd : List (List Nat) => nd.all fun y => inB y u) (nds b x)
  show DR.of (f_lets [.val (.dct false (tabK b) (tabV b)), .val (sq h1 (u.map (enc .nm))), .val (.str x), .no, .no]) [.val (.dct false (tabK b) (tabV b)), .val (sq h1 (u.map (enc .nm))), .val (.str x)] = _
  rw [nE_lets]
  unfold letsB
  generalize ((nds b x).any fun nd => nd.all fun y => inB y u) = b2 at ha ⊢
  generalize inB x u = b1 at gi ⊢
  cases b1 <;> cases b2 <;> (simp only [evl, evl2, evl3, evl4, evl6, prim, slotsE, if_true, gi, ix, it, hc, toD_l, ha, Bool.not_true, Bool.not_false, Bool.false_eq_true, if_false, Bool.true_and, Bool.false_and] <;> first | done | rfl)
end
end U
end

section
set_option Elab.async false
set_option linter.all false
set_option maxRecDepth 100000
namespace U
open PySem PySem.Spec PyProof.Rows L2
section
variable {b : BkV}
abbrev nmsB (b : BkV) : List (List Nat) := b.map (·.1)
theorem letsB_iff {u : List (List Nat)} {x : List Nat} : letsB b u x = true ↔ x ∉ u ∧ ∃ s ∈ nds b x, ∀ y ∈ s, y ∈ u := by
  unfold letsB
  simp only [Bool.and_eq_true, Bool.not_eq_true', List.any_eq_true, List.all_eq_true, inB_no, inB_iff]
theorem lets_mono {u v : List (List Nat)} {x : List Nat} (h : ∀ y ∈ u, y ∈ v) (hx : x ∉ v) (hl : letsB b u x = true) : letsB b v x = true := by
  obtain ⟨_, s, hs, h2⟩ := letsB_iff.mp hl
  exact letsB_iff.mpr ⟨hx, s, hs, fun y hy => h y (h2 y hy)⟩
theorem lets_congr {u v : List (List Nat)} (h : ∀ y, y ∈ u ↔ y ∈ v) (x : List Nat) : letsB b u x = letsB b v x := by
  rw [Bool.eq_iff_iff, letsB_iff, letsB_iff, h x]
  constructor
  · rintro ⟨h1, s, hs, h2⟩; exact ⟨h1, s, hs, fun y hy => (h y).mp (h2 y hy)⟩
  · rintro ⟨h1, s, hs, h2⟩; exact ⟨h1, s, hs, fun y hy => (h y).mpr (h2 y hy)⟩
inductive Row (b : BkV) : List (List Nat) → Prop
  | nil : Row b []
  | snoc {r : List (List Nat)} {x : List Nat} : Row b r → x ∈ nmsB b → letsB b r x = true → Row b (r ++ [x])
theorem Row.nd {r : List (List Nat)} (h : Row b r) : r.Nodup := by
  induction h with
  | nil => exact List.nodup_nil
  | snoc _ _ hl ih => exact List.nodup_append.mpr ⟨ih, by simp, fun a ha c hc e => (letsB_iff.mp hl).1 (by rw [List.mem_singleton.mp hc] at e; rw [← e]; exact ha)⟩
theorem Row.sub {r : List (List Nat)} (h : Row b r) : ∀ x ∈ r, x ∈ nmsB b := by
  induction h with
  | nil => exact fun x hx => nomatch hx
  | snoc _ hm _ ih => exact fun x hx => (List.mem_append.mp hx).elim (ih x) fun z => by rw [List.mem_singleton.mp z]; exact hm
theorem Row.len {r : List (List Nat)} (h : Row b r) : r.length ≤ b.length := by
  have := nodup_sub h.nd h.sub
  rw [List.length_map] at this
  exact this
/-! the row that row_within takes -/
def grB (b : BkV) (some : List (List Nat)) : Nat → List (List Nat) → List (List Nat)
  | 0, F => F
  | n + 1, F => match some.filter (letsB b F) with
    | [] => F
    | x :: _ => grB b some n (F ++ [x])
theorem grB_row {some : List (List Nat)} (hs : ∀ x ∈ some, x ∈ nmsB b) : ∀ (n : Nat) (F : List (List Nat)), Row b F → (∀ x ∈ F, x ∈ some) → Row b (grB b some n F) ∧ (∀ x ∈ grB b some n F, x ∈ some)
  | 0, F, h, h2 => ⟨h, h2⟩
  | n + 1, F, h, h2 => by
    unfold grB
    cases hf : some.filter (letsB b F) with
    | nil => exact ⟨h, h2⟩
    | cons x l =>
      have hx : x ∈ some.filter (letsB b F) := by rw [hf]; exact List.mem_cons_self ..
      obtain ⟨m1, m2⟩ := List.mem_filter.mp hx
      exact grB_row hs n (F ++ [x]) (h.snoc (hs x m1) m2) fun y hy => (List.mem_append.mp hy).elim (h2 y) fun z => by rw [List.mem_singleton.mp z]; exact m1
theorem grB_end {some : List (List Nat)} (hs : ∀ x ∈ some, x ∈ nmsB b) : ∀ (n : Nat) (F : List (List Nat)), Row b F → (∀ x ∈ F, x ∈ some) → some.length ≤ F.length + n → ∀ x ∈ some, letsB b (grB b some n F) x = false
  | 0, F, h, h2, hl => fun x hx => by
    show letsB b F x = false
    cases hb : letsB b F x with
    | false => rfl
    | true =>
      have h3 := nodup_sub (h.snoc (hs x hx) hb).nd (m := some) fun y hy => (List.mem_append.mp hy).elim (h2 y) fun z => by rw [List.mem_singleton.mp z]; exact hx
      rw [List.length_append, List.length_singleton] at h3
      omega
  | n + 1, F, h, h2, hl => by
    unfold grB
    cases hf : some.filter (letsB b F) with
    | nil =>
      intro x hx
      have := List.filter_eq_nil_iff.mp hf x hx
      simpa using this
    | cons x l =>
      have hx : x ∈ some.filter (letsB b F) := by rw [hf]; exact List.mem_cons_self ..
      obtain ⟨m1, m2⟩ := List.mem_filter.mp hx
      exact grB_end hs n (F ++ [x]) (h.snoc (hs x m1) m2) (fun y hy => (List.mem_append.mp hy).elim (h2 y) fun z => by rw [List.mem_singleton.mp z]; exact m1) (by rw [List.length_append, List.length_singleton]; omega)
def rwB (b : BkV) (some : List (List Nat)) : List (List Nat) := grB b some some.length []
def gwB (b : BkV) (some : List (List Nat)) : List (List Nat) := isort ltN (rwB b some)
section
variable {some : List (List Nat)} (hs : ∀ x ∈ some, x ∈ nmsB b)
include hs
theorem rw_row : Row b (rwB b some) := (grB_row hs _ _ .nil (fun _ h => nomatch h)).1
theorem rw_sub : ∀ x ∈ rwB b some, x ∈ some := (grB_row hs _ _ .nil (fun _ h => nomatch h)).2
theorem rw_end : ∀ x ∈ some, letsB b (rwB b some) x = false := grB_end hs _ _ .nil (fun _ h => nomatch h) (by simp)
theorem rw_most {r : List (List Nat)} (h : Row b r) (h2 : ∀ x ∈ r, x ∈ some) : ∀ x ∈ r, x ∈ rwB b some := by
  induction h with
  | nil => exact fun x hx => nomatch hx
  | @snoc r y _ hm hl ih =>
    have i1 := ih fun x hx => h2 x (List.mem_append.mpr (.inl hx))
    intro x hx
    rcases List.mem_append.mp hx with z | z
    · exact i1 x z
    · rw [List.mem_singleton.mp z]
      have hy : y ∈ some := h2 y (List.mem_append.mpr (.inr (List.mem_singleton.mpr rfl)))
      refine Classical.byContradiction fun c => ?_
      have h3 := lets_mono i1 c hl
      rw [rw_end hs y hy] at h3
      cases h3
theorem gw_up : Up ltN (gwB b some) := isort_up oN (rw_row hs).nd
theorem gw_mem {x : List Nat} : x ∈ gwB b some ↔ x ∈ rwB b some := (isort_perm _).mem_iff
theorem gw_sof : sof' ltN (rwB b some) = gwB b some := (isort_sof _ (rw_row hs).nd).symm
theorem gw_sub : ∀ x ∈ gwB b some, x ∈ some := fun x hx => rw_sub hs x ((gw_mem hs).mp hx)
end
/-! all rows, by length -/
def lvB (b : BkV) : Nat → List (List (List Nat))
  | 0 => [[]]
  | n + 1 => (lvB b n).flatMap fun r => (b.filter fun row => letsB b r row.1).map fun row => r ++ [row.1]
theorem mem_lv : ∀ (n : Nat) (r : List (List Nat)), r ∈ lvB b n ↔ Row b r ∧ r.length = n
  | 0, r => by
    show r ∈ [[]] ↔ _
    rw [List.mem_singleton]
    constructor
    · rintro rfl; exact ⟨.nil, rfl⟩
    · rintro ⟨_, h⟩; exact List.length_eq_zero_iff.mp h
  | n + 1, r => by
    show r ∈ (lvB b n).flatMap _ ↔ _
    rw [List.mem_flatMap]
    constructor
    · rintro ⟨s, hs, h⟩
      obtain ⟨row, hr, rfl⟩ := List.mem_map.mp h
      obtain ⟨h1, h2⟩ := List.mem_filter.mp hr
      obtain ⟨g1, g2⟩ := (mem_lv n s).mp hs
      exact ⟨g1.snoc (List.mem_map.mpr ⟨row, h1, rfl⟩) h2, by rw [List.length_append, g2, List.length_singleton]⟩
    · rintro ⟨h, hl⟩
      cases h with
      | nil => cases hl
      | @snoc s x hs hm hx =>
        rw [List.length_append, List.length_singleton] at hl
        obtain ⟨row, hr, rfl⟩ := List.mem_map.mp hm
        exact ⟨s, (mem_lv n s).mpr ⟨hs, by omega⟩, List.mem_map.mpr ⟨row, List.mem_filter.mpr ⟨hr, hx⟩, rfl⟩⟩
theorem lv_len : ∀ n : Nat, (lvB b n).length ≤ b.length ^ n
  | 0 => Nat.le_refl _
  | n + 1 => by
    show ((lvB b n).flatMap _).length ≤ _
    have key : ∀ l : List (List (List Nat)), (l.flatMap fun r => (b.filter fun row => letsB b r row.1).map fun row => r ++ [row.1]).length ≤ l.length * b.length := fun l => by
      induction l with
      | nil => simp
      | cons a l ih =>
        rw [List.flatMap_cons, List.length_append, List.length_cons, Nat.succ_mul, List.length_map]
        have := List.length_filter_le (fun row => letsB b a row.1) b
        omega
    refine Nat.le_trans (key _) ?_
    rw [Nat.pow_succ]
    exact Nat.mul_le_mul_right _ (lv_len n)
theorem lv_nil {n : Nat} (h : b.length < n) : lvB b n = [] := by
  cases hl : lvB b n with
  | nil => rfl
  | cons r l =>
    have := (mem_lv n r).mp (by rw [hl]; exact List.mem_cons_self ..)
    have h2 := this.1.len
    omega
theorem lv_stop {n : Nat} (h : lvB b n = []) : lvB b (n + 1) = [] := by
  show (lvB b n).flatMap _ = []
  rw [h]; rfl
def rsB (b : BkV) : Nat → List (List (List Nat))
  | 0 => [[]]
  | n + 1 => rsB b n ++ lvB b (n + 1)
theorem rs_stop {n : Nat} (h : lvB b n = []) : ∀ k, rsB b (n + k) = rsB b n
  | 0 => rfl
  | k + 1 => by
    have e : ∀ k, lvB b (n + k) = [] := fun k => by
      induction k with
      | zero => exact h
      | succ k ih => exact lv_stop ih
    show rsB b (n + k) ++ lvB b (n + k + 1) = _
    rw [show lvB b (n + k + 1) = [] from e (k + 1), List.append_nil, rs_stop h k]
theorem mem_rs : ∀ (n : Nat) (r : List (List Nat)), r ∈ rsB b n ↔ Row b r ∧ r.length ≤ n
  | 0, r => by
    rw [show rsB b 0 = lvB b 0 from rfl, mem_lv]
    exact ⟨fun h => ⟨h.1, by omega⟩, fun h => ⟨h.1, by omega⟩⟩
  | n + 1, r => by
    show r ∈ rsB b n ++ lvB b (n + 1) ↔ _
    rw [List.mem_append, mem_rs n r, mem_lv]
    constructor
    · rintro (h | h)
      · exact ⟨h.1, by omega⟩
      · exact ⟨h.1, by omega⟩
    · rintro ⟨h, hl⟩
      by_cases e : r.length ≤ n
      · exact .inl ⟨h, e⟩
      · exact .inr ⟨h, by omega⟩
def allR (b : BkV) : List (List (List Nat)) := rsB b (b.length + 1)
theorem mem_all {r : List (List Nat)} : r ∈ allR b ↔ Row b r := by
  unfold allR
  rw [mem_rs]
  exact ⟨fun h => h.1, fun h => ⟨h, by have := h.len; omega⟩⟩
/-! the standings -/
def stB (b : BkV) : List (List (List Nat)) := sof' (ltT tSt) ((allR b).map (isort ltN))
theorem mem_st {s : List (List Nat)} : s ∈ stB b ↔ ∃ r, Row b r ∧ isort ltN r = s := by
  unfold stB
  rw [sof_mem, List.mem_map]
  exact ⟨fun ⟨r, h, e⟩ => ⟨r, mem_all.mp h, e⟩, fun ⟨r, h, e⟩ => ⟨r, mem_all.mpr h, e⟩⟩
theorem st_up {s : List (List Nat)} (h : s ∈ stB b) : Up ltN s ∧ ∀ x ∈ s, x ∈ nmsB b := by
  obtain ⟨r, hr, rfl⟩ := mem_st.mp h
  exact ⟨isort_up oN hr.nd, fun x hx => hr.sub x ((isort_perm _).mem_iff.mp hx)⟩
theorem gw_st {some : List (List Nat)} (hs : ∀ x ∈ some, x ∈ nmsB b) : gwB b some ∈ stB b := mem_st.mpr ⟨rwB b some, rw_row hs, rfl⟩
theorem gw_most {some s : List (List Nat)} (hs : ∀ x ∈ some, x ∈ nmsB b) (h : s ∈ stB b) (h2 : ∀ x ∈ s, x ∈ some) : s.Sublist (gwB b some) := by
  obtain ⟨r, hr, rfl⟩ := mem_st.mp h
  refine up_sub (gw_up hs) (isort_up oN hr.nd) fun x hx => (gw_mem hs).mpr (rw_most hs hr (fun y hy => h2 y ((isort_perm _).mem_iff.mpr hy)) x ((isort_perm _).mem_iff.mp hx))
theorem gw_is {some : List (List Nat)} (hs : ∀ x ∈ some, x ∈ nmsB b) (hu : Up ltN some) : gwB b some = some ↔ some ∈ stB b := by
  constructor
  · intro e; rw [← e]; exact gw_st hs
  · intro h
    exact up_one oN (gw_up hs) hu fun x => ⟨gw_sub hs x, fun hx => (gw_most hs h fun _ z => z).subset hx⟩
/-- the longest within -/
def fineB (b : BkV) (some : List (List Nat)) : List (List (List Nat)) := (stB b).filter fun s => s.all fun x => inB x some
theorem mem_fine {some s : List (List Nat)} : s ∈ fineB b some ↔ s ∈ stB b ∧ ∀ x ∈ s, x ∈ some := by
  unfold fineB
  rw [List.mem_filter, List.all_eq_true]
  simp only [inB_iff]
theorem fine_len {some s : List (List Nat)} (hs : ∀ x ∈ some, x ∈ nmsB b) (h : s ∈ fineB b some) : s.length ≤ (gwB b some).length := (gw_most hs (mem_fine.mp h).1 (mem_fine.mp h).2).length_le
theorem gw_fine {some : List (List Nat)} (hs : ∀ x ∈ some, x ∈ nmsB b) : gwB b some ∈ fineB b some := mem_fine.mpr ⟨gw_st hs, gw_sub hs⟩
theorem most_eq {some : List (List Nat)} (hs : ∀ x ∈ some, x ∈ nmsB b) : ∃ l, (fineB b some).filter (fun s => decide (s.length = (gwB b some).length)) = gwB b some :: l := by
  cases hf : (fineB b some).filter (fun s => decide (s.length = (gwB b some).length)) with
  | nil =>
    have := List.filter_eq_nil_iff.mp hf _ (gw_fine hs)
    simp at this
  | cons s l =>
    have hx : s ∈ (fineB b some).filter (fun s => decide (s.length = (gwB b some).length)) := by rw [hf]; exact List.mem_cons_self ..
    obtain ⟨h1, h2⟩ := List.mem_filter.mp hx
    have h2 := of_decide_eq_true h2
    have e := up_full (gw_up hs) (gw_most hs (mem_fine.mp h1).1 (mem_fine.mp h1).2) (by omega)
    exact ⟨l, by rw [e]⟩
end
end U
end

section
set_option Elab.async false
set_option linter.all false
set_option maxRecDepth 100000
set_option maxHeartbeats 1000000
namespace U
open PySem PySem.Spec PyProof.Rows L2
structure BkOk (k : Kd) (h : Bool) (b : BkV) : Prop where
  g : Good (.seq k (tRow h)) [9, 12, 8] b
  nd : (b.map (·.1)).Nodup
theorem BkOk.gn {k : Kd} {h : Bool} {b : BkV} (B : BkOk k h b) {x : List Nat} (hx : x ∈ b.map (·.1)) : GN x := by
  obtain ⟨r, hr, rfl⟩ := List.mem_map.mp hx
  exact (B.g.2 r hr).1
def stF (b : BkV) (sm F : List (List Nat)) : List (List Nat) := match sm.filter (letsB b F) with
  | [] => F
  | x :: _ => F ++ [x]
theorem gr_loop {t : T → Rs Bool} {bd : T → SR} {v0 v1 v2 : Sl} {b : BkV} {sm : List (List Nat)} (hs : ∀ x ∈ sm, x ∈ nmsB b)
    (ht : ∀ (g : Bool) (F : List (List Nat)) (s5 : Sl), t [v0, v1, v2, .val (.tup (F.map (enc .nm))), .val (.bl g), s5, .no] = .ok g [v0, v1, v2, .val (.tup (F.map (enc .nm))), .val (.bl g), s5, .no])
    (hb : ∀ (F : List (List Nat)) (s5 : Sl), s5.free = true → Row b F → (∀ x ∈ F, x ∈ sm) → bd [v0, v1, v2, .val (.tup (F.map (enc .nm))), .val (.bl true), s5, .no] = .nx [v0, v1, v2, .val (.tup ((stF b sm F).map (enc .nm))), .val (.bl (!(sm.filter (letsB b F)).isEmpty)), .own (.l ((sm.filter (letsB b F)).map (enc .nm))), .no]) :
    ∀ (k : Nat) (F : List (List Nat)) (s5 : Sl), Row b F → (∀ x ∈ F, x ∈ sm) → s5.free = true → sm.length ≤ F.length + k → ∀ n, k + 2 ≤ n → ∃ s5', whileL t bd n [v0, v1, v2, .val (.tup (F.map (enc .nm))), .val (.bl true), s5, .no] = .nx [v0, v1, v2, .val (.tup ((grB b sm k F).map (enc .nm))), .val (.bl false), s5', .no]
  | 0, F, s5, hr, hf, f5, hl, n, hn => by
    obtain ⟨m, rfl⟩ : ∃ m, n = m + 2 := ⟨n - 2, by omega⟩
    have he : sm.filter (letsB b F) = [] := List.filter_eq_nil_iff.mpr fun x hx => by
      have := grB_end hs 0 F hr hf hl x hx
      rw [show grB b sm 0 F = F from rfl] at this
      rw [this]; exact Bool.false_ne_true
    have e := hb F s5 f5 hr hf
    have e2 : stF b sm F = F := by unfold stF; rw [he]
    rw [e2, he] at e
    refine ⟨.own (.l []), ?_⟩
    rw [while_go (ht true F s5) e]
    exact while_end (ht false F _)
  | k + 1, F, s5, hr, hf, f5, hl, n, hn => by
    obtain ⟨m, rfl⟩ : ∃ m, n = m + 2 := ⟨n - 2, by omega⟩
    have e := hb F s5 f5 hr hf
    cases he : sm.filter (letsB b F) with
    | nil =>
      have e2 : stF b sm F = F := by unfold stF; rw [he]
      have e3 : grB b sm (k + 1) F = F := by unfold grB; rw [he]
      rw [e2, he] at e
      rw [e3]
      refine ⟨.own (.l []), ?_⟩
      rw [while_go (ht true F s5) e]
      exact while_end (ht false F _)
    | cons x l =>
      have e2 : stF b sm F = F ++ [x] := by unfold stF; rw [he]
      have e3 : grB b sm (k + 1) F = grB b sm k (F ++ [x]) := by
        show (match sm.filter (letsB b F) with
          | [] => F
          | x :: _ => grB b sm k (F ++ [x])) = _
        rw [he]
      have hx : x ∈ sm.filter (letsB b F) := by rw [he]; exact List.mem_cons_self ..
      obtain ⟨m1, m2⟩ := List.mem_filter.mp hx
      rw [e2, he] at e
      obtain ⟨s5', h⟩ := gr_loop hs ht hb k (F ++ [x]) (.own (.l ((x :: l).map (enc .nm)))) (hr.snoc (hs x m1) m2) (fun y hy => (List.mem_append.mp hy).elim (hf y) fun z => by rw [List.mem_singleton.mp z]; exact m1) rfl (by rw [List.length_append, List.length_singleton]; omega) (m + 1) (by omega)
      refine ⟨s5', ?_⟩
      rw [e3, while_go (ht true F s5) e]
      exact h
section
variable {k : Kd} {h h1 : Bool} {b : BkV} {u : List (List Nat)}
theorem row_within_ok (B : BkOk k h b) (gu : Good (.seq (.b h1) .nm) [9] u) (hu : ∀ x ∈ u, x ∈ nmsB b) : den_row_within [.val (sk k (b.map (enc (tRow h)))), .val (sq h1 (u.map (enc .nm)))] = .ok (.d (.tup ((rwB b u).map (enc .nm)))) [.no, .no] := by
  have e2 := table_ok B.g B.nd
  have td : (OV.d false (tabK b) (tabV b)).toD = .dct false (tabK b) (tabV b) := rfl
  have it : (sq h1 (u.map (enc .nm))).items = some (u.map (enc .nm)) := sq_items h1 _
  have hul : u.length ≤ 9 := gu.1
  have hc : ∀ (F : List (List Nat)) (g : D) (s5 : Sl), Row b F → compL c0_row_within (u.map (enc .nm)) [.val (sk k (b.map (enc (tRow h)))), .val (sq h1 (u.map (enc .nm))), .val (.dct false (tabK b) (tabV b)), .val (.tup (F.map (enc .nm))), .val g, s5, .no] [] = .ok ((u.filter (letsB b F)).map (enc .nm)) [.val (sk k (b.map (enc (tRow h)))), .val (sq h1 (u.map (enc .nm))), .val (.dct false (tabK b) (tabV b)), .val (.tup (F.map (enc .nm))), .val g, s5, .no] := fun F g s5 hr =>
    cp_fid (t := .nm) (q := letsB b F) u (lim_big (by omega)) fun x hx => by
      have gf : Good (.seq (.b true) .nm) [9] F := ⟨Nat.le_trans hr.len B.g.1, fun y hy => B.gn (hr.sub y hy)⟩
      have el : den_lets [.val (.dct false (tabK b) (tabV b)), .val (.tup (F.map (enc .nm))), .val (.str x)] = _ := lets_ok (h1 := true) B.g gf (gu.2 x hx) (hu x hx)
      show c0_row_within (.str x) _ = _
      generalize letsB b F x = bb at el ⊢
      cases bb <;> (simp only [c0_row_within, evl, evl2, evl3, evl4, prim, slotsE, if_true, el, nd0, Bool.false_eq_true, if_false] <;> first | done | rfl)
  show DR.of (f_row_within [.val (sk k (b.map (enc (tRow h)))), .val (sq h1 (u.map (enc .nm))), .no, .no, .no, .no, .no]) [.val (sk k (b.map (enc (tRow h)))), .val (sq h1 (u.map (enc .nm)))] = _
  rw [nE_row_within]
  refine run_seq (t := [.val (sk k (b.map (enc (tRow h)))), .val (sq h1 (u.map (enc .nm))), .val (.dct false (tabK b) (tabV b)), .val (.tup (([] : List (List Nat)).map (enc .nm))), .val (.bl true), .no, .no]) ?_ ?_
  · simp only [evl, evl2, evl3, evl4, prim, slotsE, if_true, nd0, e2, td, List.length_cons, List.length_nil, Nat.reduceAdd, limE, List.map_nil]
  have W : ∃ s5', sWhile (sTru (sRd 4)) (sSeq (sFzS [2, 3] (sSet 5 (sLcB (sItems (frz (sVar 1))) c0_row_within [6]))) (sSeq (sSet 4 (sOp2 (gCmp .gt) (toB (frz (sCB (g1 gLen) (sBCons (sRd 5) (sBNil))))) (toB (frz (sC (.int 0)))))) (sSet 3 (sIte (sTru (sRd 4)) (sTup (sStar (sRd 3) (sCons (frz (sOp2 gIx (sRd 5) (toB (frz (sC (.int 0)))))) (sNil)))) (sVar 3))))) [.val (sk k (b.map (enc (tRow h)))), .val (sq h1 (u.map (enc .nm))), .val (.dct false (tabK b) (tabV b)), .val (.tup (([] : List (List Nat)).map (enc .nm))), .val (.bl true), .no, .no] = .nx [.val (sk k (b.map (enc (tRow h)))), .val (sq h1 (u.map (enc .nm))), .val (.dct false (tabK b) (tabV b)), .val (.tup ((rwB b u).map (enc .nm))), .val (.bl false), s5', .no] := by
    rw [sWhile_eq]
    refine gr_loop hu (fun g F s5 => ?_) (fun F s5 f5 hr hf => ?_) u.length [] .no .nil (fun _ h => nomatch h) rfl (by simp) fuel (by show u.length + 2 ≤ 100000; omega)
    · simp only [evl, evl2, evl3, evl4, prim, slotsE]
    · have hc' := hc F (.bl true) s5 hr
      have hfl : F.length ≤ 9 := Nat.le_trans hr.len B.g.1
      cases he : u.filter (letsB b F) with
      | nil =>
        have e2 : stF b u F = F := by unfold stF; rw [he]
        rw [he] at hc'
        have hc' : compL c0_row_within (u.map (enc .nm)) [.val (sk k (b.map (enc (tRow h)))), .val (sq h1 (u.map (enc .nm))), .val (.dct false (tabK b) (tabV b)), .val (.tup (F.map (enc .nm))), .val (.bl true), s5, .no] [] = .ok [] _ := hc'
        rw [e2]
        simp only [evl, evl2, evl3, evl4, evl6, evl9, prim, slotsE, f5, if_true, it, hc', List.length_nil, List.isEmpty_nil, Bool.not_true, Bool.false_eq_true, if_false, List.map_nil, show decide (((0 : Nat) : Int) > 0) = false from rfl]
      | cons x l =>
        have e2 : stF b u F = F ++ [x] := by unfold stF; rw [he]
        rw [he] at hc'
        have hc' : compL c0_row_within (u.map (enc .nm)) [.val (sk k (b.map (enc (tRow h)))), .val (sq h1 (u.map (enc .nm))), .val (.dct false (tabK b) (tabV b)), .val (.tup (F.map (enc .nm))), .val (.bl true), s5, .no] [] = .ok (.str x :: l.map (enc .nm)) _ := hc'
        have ea : (F ++ [x]).map (enc .nm) = F.map (enc .nm) ++ [.str x] := by rw [List.map_append]; rfl
        have hg : decide (((D.str x :: l.map (enc .nm)).length : Int) > 0) = true := decide_eq_true (by rw [List.length_cons]; omega)
        have ix : gIx (.lst (.str x :: l.map (enc .nm))) (.int 0) = some (.d (.str x)) := by
          show (atI (D.str x :: l.map (enc .nm)) 0).map PR.d = _
          have := at_nat (xs := D.str x :: l.map (enc .nm)) (i := 0) (by simp)
          have e : atI (D.str x :: l.map (enc .nm)) 0 = some (.str x) := this
          rw [e]; rfl
        have hl : ((F.map (enc .nm) ++ [D.str x]).length ≤ lim) = True := eq_true (by rw [List.length_append, List.length_map]; exact lim_big (by simp; omega))
        have ln : gLen (.lst (.str x :: l.map (enc .nm))) = some (.d (.int ((D.str x :: l.map (enc .nm)).length : Int))) := rfl
        have em : (x :: l).map (enc .nm) = .str x :: l.map (enc .nm) := rfl
        rw [e2, ea, em]
        generalize hq : (D.str x :: l.map (enc .nm)) = ql at hc' hg ix ln ⊢
        simp only [evl, evl2, evl3, evl4, evl6, evl9, star_eq, prim, slotsE, f5, if_true, it, hc', ln, hg, ix, hl, List.isEmpty_cons, Bool.not_false]
  obtain ⟨s5', W⟩ := W
  refine run_seq W ?_
  simp only [evl, evl2, evl3, evl4, prim, slotsE]
end
end U
end

section
set_option Elab.async false
set_option linter.all false
set_option maxRecDepth 100000
set_option maxHeartbeats 1000000
namespace U
open PySem PySem.Spec PyProof.Rows L2
section
variable {k : Kd} {h h1 : Bool} {b : BkV} {u : List (List Nat)}
theorem rw_good (B : BkOk k h b) (hu : ∀ x ∈ u, x ∈ nmsB b) : Good (.seq (.b true) .nm) [9] (rwB b u) := ⟨Nat.le_trans (rw_row hu).len B.g.1, fun x hx => B.gn ((rw_row hu).sub x hx)⟩
theorem gw_good (B : BkOk k h b) (hu : ∀ x ∈ u, x ∈ nmsB b) : Good (.seq (.b true) .nm) [9] (gwB b u) := gd_sort (h := .b true) (rw_good B hu)
theorem greatest_ok (B : BkOk k h b) (gu : Good (.seq (.b h1) .nm) [9] u) (hu : ∀ x ∈ u, x ∈ nmsB b) : den_greatest_within [.val (sk k (b.map (enc (tRow h)))), .val (sq h1 (u.map (enc .nm)))] = .ok (.d (.tup ((gwB b u).map (enc .nm)))) [.no, .no] := by
  have e1 := check_ok (h1 := h1) B.g (fun x hx => gu.2 x hx) hu
  have e2 := row_within_ok B gu hu
  have e3 : den_set_of [.val (.tup ((rwB b u).map (enc .nm)))] = .ok (.d (.tup ((sof' ltN (rwB b u)).map (enc .nm)))) [.no] := (w_set_of (t := .nm) (h := true) (n := 9) (b := []) rfl (rw_good B hu) rfl rfl (by decide) (by decide)).1
  rw [gw_sof hu] at e3
  simp only [den_greatest_within, f_greatest_within, evl, evl2, evl3, evl4, prim, slotsE, if_true, nd0, e1, e2, e3]
theorem greatest_no {s s2 : List (List Nat)} {x : List Nat} (B : BkOk k h b) (gs : ∀ x ∈ s, GN x) (gx : GN x) (hs : ∀ x ∈ s, x ∈ b.map (·.1)) (hx : x ∉ b.map (·.1)) : den_greatest_within [.val (sk k (b.map (enc (tRow h)))), .val (sq h1 ((s ++ x :: s2).map (enc .nm)))] = .exc ⟨0, [.str x]⟩ [.no, .no] := by
  have e1 := check_no (h1 := h1) (s2 := s2) B.g gs gx hs hx
  simp only [den_greatest_within, f_greatest_within, evl, evl2, evl3, evl4, evl8, prim, slotsE, if_true, nd0, e1]
theorem units_eq (B : BkOk k h b) : den_units [.val (sk k (b.map (enc (tRow h))))] = .ok (.d (.tup ((nmsB b).map (enc .nm)))) [.no] := (w_units (k0 := k) (h0 := h) (a0 := b) B.g).1
theorem nms_good' (B : BkOk k h b) (hb : Bool) : Good (.seq (.b hb) .nm) [9] (nmsB b) := ⟨by show (b.map _).length ≤ 9; rw [List.length_map]; exact B.g.1, fun x hx => B.gn hx⟩
theorem whole_ok (B : BkOk k h b) : den_whole [.val (sk k (b.map (enc (tRow h))))] = .ok (.d (.tup ((gwB b (nmsB b)).map (enc .nm)))) [.no] := by
  have e1 := units_eq B
  have e2 : den_greatest_within [.val (sk k (b.map (enc (tRow h)))), .val (.tup ((nmsB b).map (enc .nm)))] = _ := greatest_ok (h1 := true) B (nms_good' B true) fun _ hx => hx
  simp only [den_whole, f_whole, evl, evl2, evl3, evl4, prim, slotsE, if_true, nd0, e1, e2]
def nvB (b : BkV) : List (List Nat) := (nmsB b).filter fun x => !inB x (gwB b (nmsB b))
end
end U
end

section
set_option Elab.async false
set_option linter.all false
set_option maxRecDepth 100000
set_option maxHeartbeats 1000000
namespace U
open PySem PySem.Spec PyProof.Rows L2
/-! the draws -/
theorem take_nat {k : Nat} {u : List D} (n : Nat) (hu : Urn k u) (hk : k < 2 ^ 60) (hn : 0 < n) (hl : n ≤ 1000) : ∃ (d : Nat) (u' : List D), d < n ∧ Urn (k + 1) u' ∧ den__law_take [.io (.l u), .val (.int (n : Int))] = .ok (.d (.int (d : Int))) [.io (.l u'), .no] := by
  obtain ⟨d, u', h1, h2, h3, h4⟩ := take_ok (n := (n : Int)) hu hk (by omega) (by
    have : ((n : Int)).natAbs = n := by omega
    rw [this]
    exact log2_few (by omega))
  refine ⟨d.toNat, u', by omega, h3, ?_⟩
  rw [h4]
  have : ((d.toNat : Nat) : Int) = d := by omega
  rw [this]
theorem int_eq0 (d : Nat) : ((d : Int) == 0) = decide (d = 0) := by
  by_cases q : d = 0
  · subst q; rfl
  · have : ((d : Int) == 0) = false := by rw [beq_eq_false_iff_ne]; omega
    rw [this, decide_eq_false q]
theorem limT {n : Nat} (h : n ≤ 1000) : (n < lim) = True := eq_true (Nat.lt_of_le_of_lt h (by decide))
theorem limU {n : Nat} (h : n ≤ 1000) : (n ≤ lim) = True := eq_true (lim_big h)
theorem mixed_loop {vp : Sl} (ds : List D) : ∀ (k : Nat) (u : List D) (rest found : List D) (s5 : Sl), Urn k u → k + ds.length < 2 ^ 60 → ds.length = rest.length → rest.length + found.length ≤ 60 → s5.free = true → ∃ (u' : List D) (f' : List D) (s5' : Sl), Urn (k + ds.length) u' ∧ f'.Perm (found ++ rest) ∧
    forL b0__law_mixed ds [.io (.l u), vp, .own (.l rest), .own (.l found), s5] = .nx [.io (.l u'), vp, .own (.l []), .own (.l f'), s5'] := by
  induction ds with
  | nil =>
    intro k u rest found s5 hu _ h0 _ _
    have : rest = [] := List.length_eq_zero_iff.mp h0.symm
    subst this
    exact ⟨u, found, s5, hu, by rw [List.append_nil], rfl⟩
  | cons d ds ih =>
    intro k u rest found s5 hu hk hm hl f5
    rw [List.length_cons] at hk hm
    obtain ⟨j, u1, hj, hu1, e1⟩ := take_nat rest.length hu (by omega) (by omega) (by omega)
    obtain ⟨u', f', s5', h1, h2, h4⟩ := ih (k + 1) u1 (rest.eraseIdx j) (found ++ [rest[j]]) (.val d) hu1 (by omega) (by rw [List.length_eraseIdx, if_pos hj]; omega) (by rw [List.length_eraseIdx, if_pos hj, List.length_append, List.length_singleton]; omega) rfl
    have pm : (found ++ [rest[j]] ++ rest.eraseIdx j).Perm (found ++ rest) := by
      rw [List.append_assoc]
      exact List.Perm.append_left found (erase_pm hj)
    refine ⟨u', f', s5', h1.mono (by rw [List.length_cons]; omega), h2.trans pm, ?_⟩
    have hpop := popAt_D hj (by omega)
    have hll := limT (n := found.length) (by omega)
    rw [forL_step (τ1 := [.io (.l u1), vp, .own (.l (rest.eraseIdx j)), .own (.l (found ++ [rest[j]])), .val d])]
    · exact h4
    · simp only [star_eq, gTp_l, evl, evl2, evl3, evl4, evl5, evl6, evl7, evl8, evl9, evl10, evl11, evl12, prim, slotsE, eqE, t_sq, if_true, if_false, Bool.false_eq_true, nd0, nd1, toD_l, List.length_cons, List.length_nil, Nat.reduceAdd, limE, Bool.false_bne, Bool.true_bne, Bool.not_true, Bool.not_false, b0__law_mixed, f5, e1, hpop, hll]
theorem mixed_ok (h : Bool) {k : Nat} {u : List D} (hu : Urn k u) (ds : List D) (hk : k + 100 < 2 ^ 60) (hl : ds.length ≤ 60) : ∃ (u' : List D) (fs : List D), Urn (k + ds.length) u' ∧ fs.Perm ds ∧ den__law_mixed [.io (.l u), .val (sq h ds)] = .ok (.d (.tup fs)) [.io (.l u'), .no] := by
  have hrl : (rng 0 ds.length).length = ds.length := by simp [rng]
  obtain ⟨u', f', s5', h1, h2, h4⟩ := mixed_loop (vp := .val (sq h ds)) (rng 0 ds.length) k u ds [] .no hu (by rw [hrl]; omega) hrl (by rw [List.length_nil]; omega) rfl
  rw [hrl] at h1
  refine ⟨u', f', h1, by simpa using h2, ?_⟩
  have hlist : gList (sq h ds) = some (.o (.l ds)) := by cases h <;> rfl
  have hlen : gLen (sq h ds) = some (.d (.int (ds.length : Int))) := sq_len h ds
  have l0 : (([] : List D).length ≤ lim) = True := eq_true (by decide)
  have hs := small62 (n := ds.length) (by omega)
  have gt : gTuple (.lst f') = some (.d (.tup f')) := rfl
  show DR.of (f__law_mixed [.io (.l u), .val (sq h ds), .no, .no, .no]) [.io (.l u), .val (sq h ds)] = _
  rw [nE__law_mixed]
  simp only [evl, evl2, evl3, evl4, evl6, prim, slotsE, hlist, hlen, l0, if_true, hs, toNatI, h4, gt]
theorem numb_zip {α : Type} {g : α → D} : ∀ (xs : List α) (k : Nat), numb k (xs.map g) = (xs.zipIdx k).map fun p => .tup [.int (p.2 : Int), g p.1]
  | [], k => rfl
  | x :: xs, k => by
    rw [List.map_cons]
    show D.tup [.int (k : Int), g x] :: numb (k + 1) (xs.map g) = _
    rw [numb_zip xs (k + 1), List.zipIdx_cons, List.map_cons]
/-- the ones whose places stand in a list -/
def pickB {α : Type} (ns : List α) (m : List Nat) : List α := ((ns.zipIdx 0).filter fun p => inB p.2 m).map (·.1)
theorem pickB_sub {α : Type} (ns : List α) (m : List Nat) : (pickB ns m).Sublist ns := by
  unfold pickB
  have h := (List.filter_sublist (l := ns.zipIdx 0) (p := fun p => inB p.2 m)).map (·.1)
  rwa [List.zipIdx_map_fst] at h
theorem pickB_len {α : Type} (ns : List α) (m : List Nat) : (pickB ns m).length ≤ m.length := by
  unfold pickB
  rw [List.length_map]
  have e : ((ns.zipIdx 0).filter fun p => inB p.2 m).length = (((ns.zipIdx 0).map (·.2)).filter fun j => inB j m).length := by
    rw [List.filter_map, List.length_map]; rfl
  rw [e]
  refine nodup_sub (List.Pairwise.filter _ ?_) fun x hx => inB_iff.mp (List.mem_filter.mp hx).2
  have : (ns.zipIdx 0).map (·.2) = List.range' 0 ns.length := by rw [List.zipIdx_map_snd]
  rw [this]
  exact List.nodup_range'
theorem pick_ok (h : Bool) {k : Nat} {u : List D} (hu : Urn k u) {ns : List (List Nat)} (n : Nat) (hk : k + 100 < 2 ^ 60) (hl : ns.length ≤ 60) : ∃ (u' : List D) (fs : List (List Nat)), Urn (k + 60) u' ∧ fs.Sublist ns ∧ fs.length ≤ n ∧ den__law_pick [.io (.l u), .val (sq h (ns.map (enc .nm))), .val (.int n)] = .ok (.o (.l (fs.map (enc .nm)))) [.io (.l u'), .no, .no] := by
  obtain ⟨u', fs, hu', pm, e1⟩ := mixed_ok false hu (rng 0 ns.length) (by omega) (by simp [rng]; omega)
  have hrl : (rng 0 ns.length).length = ns.length := by simp [rng]
  rw [hrl] at hu'
  rw [rng_eq] at pm
  obtain ⟨m, pn, rfl⟩ := perm_map pm
  have e1 : den__law_mixed [.io (.l u), .val (.lst (rng 0 ns.length))] = .ok (.d (.tup (m.map fun (j : Nat) => D.int (j : Int)))) [.io (.l u'), .no] := e1
  refine ⟨u', pickB ns (m.take n), hu'.mono (by omega), pickB_sub .., Nat.le_trans (pickB_len ..) (List.length_take_le ..), ?_⟩
  have hln : gLen (sq h (ns.map (enc .nm))) = some (.d (.int (ns.length : Int))) := by rw [sq_len, List.length_map]
  have hs : (((ns.length : Int)).natAbs ≤ 1000) = True := eq_true (by omega)
  have hgl : gList (.tup (m.map fun (j : Nat) => D.int (j : Int))) = some (.o (.l (m.map fun (j : Nat) => D.int (j : Int)))) := rfl
  have ct : cutA (m.map fun (j : Nat) => D.int (j : Int)) none (some (n : Int)) = (m.take n).map fun (j : Nat) => D.int (j : Int) := by rw [cut_to, List.map_take]
  have hc : compL c0__law_pick (numb 0 (ns.map (enc .nm))) [.io (.l u'), .val (sq h (ns.map (enc .nm))), .val (.int n), .own (.l ((m.take n).map fun (j : Nat) => D.int (j : Int))), .no, .no] [] = .ok ((pickB ns (m.take n)).map (enc .nm)) [.io (.l u'), .val (sq h (ns.map (enc .nm))), .val (.int n), .own (.l ((m.take n).map fun (j : Nat) => D.int (j : Int))), .no, .no] := by
    rw [numb_zip]
    unfold pickB
    refine cp_filt (t := .nm) (ns.zipIdx 0) (by rw [List.length_zipIdx]; exact lim_big (by omega)) fun p hp => ?_
    have gi : gIn false (.int (p.2 : Int)) (.lst ((m.take n).map fun (j : Nat) => D.int (j : Int))) = some (.d (.bl (inB p.2 (m.take n)))) := by
      have := t_in0 (t := .int) (h := false) (b := []) (c := [1000]) (x := (p.2 : Int)) (l := (m.take n).map fun (j : Nat) => (j : Int)) rfl trivial ⟨by
        rw [List.length_map]
        have h1 := List.length_take_le n m
        have h2 : (m.take n).length ≤ m.length := List.length_take_le' ..
        have h3 : m.length = ns.length := by rw [pn.length_eq, List.length_range]
        show _ ≤ 1000
        omega, fun _ _ => trivial⟩ (by decide)
      have e2 : inB (p.2 : Int) ((m.take n).map fun (j : Nat) => (j : Int)) = inB p.2 (m.take n) := by
        rw [Bool.eq_iff_iff, inB_iff, inB_iff, List.mem_map]
        refine ⟨fun ⟨j, hj, e⟩ => ?_, fun hj => ⟨_, hj, rfl⟩⟩
        have : j = p.2 := by omega
        rw [← this]; exact hj
      rw [e2] at this
      have e3 : enc (.seq (.b false) .int) ((m.take n).map fun (j : Nat) => (j : Int)) = .lst ((m.take n).map fun (j : Nat) => D.int (j : Int)) := by
        show D.lst (((m.take n).map fun (j : Nat) => (j : Int)).map (enc .int)) = _
        rw [List.map_map]; rfl
      rw [e3] at this
      exact this
    show c0__law_pick (.tup [.int (p.2 : Int), .str p.1]) _ = _
    generalize inB p.2 (m.take n) = bb at gi ⊢
    cases bb <;> (simp only [star_eq, gTp_l, evl, evl2, evl3, evl4, evl5, evl6, evl7, evl8, evl9, evl10, evl11, evl12, prim, slotsE, eqE, t_sq, if_true, if_false, Bool.false_eq_true, nd0, nd1, toD_l, List.length_cons, List.length_nil, Nat.reduceAdd, limE, Bool.false_bne, Bool.true_bne, Bool.not_true, Bool.not_false, c0__law_pick, gi] <;> first | done | rfl)
  show DR.of (f__law_pick [.io (.l u), .val (sq h (ns.map (enc .nm))), .val (.int n), .no, .no, .no]) [.io (.l u), .val (sq h (ns.map (enc .nm))), .val (.int n)] = _
  rw [nE__law_pick]
  cases h <;> (simp only [t_sq] at hln hc; simp only [star_eq, gTp_l, evl, evl2, evl3, evl4, evl5, evl6, evl7, evl8, evl9, evl10, evl11, evl12, prim, slotsE, eqE, t_sq, if_true, if_false, Bool.false_eq_true, nd0, nd1, toD_l, List.length_cons, List.length_nil, Nat.reduceAdd, limE, Bool.false_bne, Bool.true_bne, Bool.not_true, Bool.not_false, hln, hs, toNatI, e1, hgl, ct, hc])
end U
end

section
set_option Elab.async false
set_option linter.all false
set_option maxRecDepth 100000
set_option maxHeartbeats 1000000
namespace U
open PySem PySem.Spec PyProof.Rows L2
/-! orders -/
section
variable {b : BkV}
structure Order (b : BkV) (r : List (List Nat)) : Prop where
  row : Row b r
  fin : ∀ x ∈ nmsB b, letsB b r x = false
theorem nds_row {b : BkV} (nd : (b.map (·.1)).Nodup) {r : List Nat × List (List (List Nat))} (hr : r ∈ b) : nds b r.1 = r.2 := by
  obtain ⟨z, hz, e1, _, e2⟩ := ofK_mem (List.mem_map.mpr ⟨r, hr, rfl⟩) ([] : List (List (List Nat)))
  unfold nds
  rw [e2]
  have key : ∀ l : BkV, (l.map (·.1)).Nodup → z ∈ l → r ∈ l → z = r := fun l => by
    induction l with
    | nil => intro _ h; cases h
    | cons a l ih =>
      intro h h1 h2
      rw [List.map_cons, List.nodup_cons] at h
      rcases List.mem_cons.mp h1 with q1 | q1
      · rcases List.mem_cons.mp h2 with q2 | q2
        · rw [q1, q2]
        · exact absurd (List.mem_map.mpr ⟨r, q2, by rw [← e1, q1]⟩) h.1
      · rcases List.mem_cons.mp h2 with q2 | q2
        · exact absurd (List.mem_map.mpr ⟨z, q1, by rw [e1, q2]⟩) h.1
        · exact ih h.2 q1 q2
  rw [key b nd hz hr]
theorem Row.init {r : List (List Nat)} {x : List Nat} (h : Row b (r ++ [x])) : Row b r ∧ x ∈ nmsB b ∧ letsB b r x = true := by
  generalize e : r ++ [x] = s at h
  cases h with
  | nil => simp at e
  | @snoc r' y hr hm hl =>
    obtain ⟨e1, e2⟩ := List.append_inj' e rfl
    cases e2
    subst e1
    exact ⟨hr, hm, hl⟩
theorem Row.pre {r s : List (List Nat)} (h : Row b (r ++ s)) : Row b r := by
  have key : ∀ {t : List (List Nat)}, Row b t → ∀ r s, t = r ++ s → Row b r := fun {t} h => by
    induction h with
    | nil =>
      intro r s e
      have : r = [] := (List.append_eq_nil_iff.mp e.symm).1
      rw [this]; exact .nil
    | @snoc t x ht hm hl ih =>
      intro r s e
      rcases List.eq_nil_or_concat s with rfl | ⟨s', y, rfl⟩
      · rw [List.append_nil] at e
        rw [← e]; exact ht.snoc hm hl
      · rw [List.concat_eq_append, ← List.append_assoc] at e
        obtain ⟨e1, _⟩ := List.append_inj' e rfl
        exact ih r s' e1
  exact key h r s rfl
/-- each row lies within each order -/
theorem Order.most {o : List (List Nat)} (O : Order b o) {r : List (List Nat)} (h : Row b r) : ∀ x ∈ r, x ∈ o := by
  induction h with
  | nil => exact fun x hx => nomatch hx
  | @snoc r y _ hm hl ih =>
    intro x hx
    rcases List.mem_append.mp hx with z | z
    · exact ih x z
    · rw [List.mem_singleton.mp z]
      refine Classical.byContradiction fun c => ?_
      have h3 := lets_mono ih c hl
      rw [O.fin y hm] at h3
      cases h3
abbrev allB (b : BkV) : List (List Nat) := gwB b (nmsB b)
theorem nm_self : ∀ x ∈ nmsB b, x ∈ nmsB b := fun _ h => h
theorem all_mem {x : List Nat} : x ∈ allB b ↔ x ∈ rwB b (nmsB b) := gw_mem nm_self
theorem rw_order : Order b (rwB b (nmsB b)) := ⟨rw_row nm_self, rw_end nm_self⟩
theorem Row.all {r : List (List Nat)} (h : Row b r) : ∀ x ∈ r, x ∈ allB b := fun x hx => all_mem.mpr (rw_order.most h x hx)
theorem Order.mem {o : List (List Nat)} (O : Order b o) {x : List Nat} : x ∈ o ↔ x ∈ allB b := ⟨O.row.all x, fun h => O.most rw_order.row x (all_mem.mp h)⟩
theorem Order.set {o : List (List Nat)} (O : Order b o) : isort ltN o = allB b := up_one oN (isort_up oN O.row.nd) (gw_up nm_self) fun x => by rw [(isort_perm _).mem_iff, O.mem]
theorem Row.order {r : List (List Nat)} (h : Row b r) (hm : ∀ x ∈ allB b, x ∈ r) : Order b r := ⟨h, fun x hx => by
  cases q : letsB b r x with
  | false => rfl
  | true => exact absurd (hm x ((h.snoc hx q).all x (List.mem_append_right _ (List.mem_singleton.mpr rfl)))) (letsB_iff.mp q).1⟩
/-! who can be last -/
theorem last_iff {x : List Nat} (hx : x ∈ allB b) : gwB b ((allB b).filter fun y => !decide (y = x)) = ((allB b).filter fun y => !decide (y = x)) ↔ ∃ p, Order b (p ++ [x]) := by
  have hm : ∀ y, y ∈ (allB b).filter (fun y => !decide (y = x)) ↔ y ∈ allB b ∧ y ≠ x := fun y => by simp [List.mem_filter]
  have hs : ∀ y ∈ (allB b).filter (fun y => !decide (y = x)), y ∈ nmsB b := fun y hy => gw_sub nm_self y ((hm y).mp hy).1
  have hu : Up ltN ((allB b).filter fun y => !decide (y = x)) := (gw_up nm_self).filter _
  rw [gw_is hs hu, mem_st]
  constructor
  · rintro ⟨p, hp, e⟩
    have pm : ∀ y, y ∈ p ↔ y ∈ allB b ∧ y ≠ x := fun y => by rw [← hm y, ← e, (isort_perm _).mem_iff]
    have hxn : x ∈ nmsB b := gw_sub nm_self x hx
    have hl : letsB b p x = true := by
      cases q : letsB b p x with
      | true => rfl
      | false =>
        exfalso
        have O : Order b p := ⟨hp, fun y hy => by
          cases q2 : letsB b p y with
          | false => rfl
          | true =>
            have h1 := (hp.snoc hy q2).all y (List.mem_append_right _ (List.mem_singleton.mpr rfl))
            by_cases e2 : y = x
            · rw [e2, q] at q2; cases q2
            · exact absurd ((pm y).mpr ⟨h1, e2⟩) (letsB_iff.mp q2).1⟩
        exact ((pm x).mp (O.mem.mpr hx)).2 rfl
    refine ⟨p, (hp.snoc hxn hl).order fun y hy => ?_⟩
    by_cases e2 : y = x
    · rw [e2]; exact List.mem_append_right _ (List.mem_singleton.mpr rfl)
    · exact List.mem_append_left _ ((pm y).mpr ⟨hy, e2⟩)
  · rintro ⟨p, O⟩
    obtain ⟨h1, _, _⟩ := O.row.init
    refine ⟨p, h1, up_one oN (isort_up oN h1.nd) hu fun y => ?_⟩
    rw [(isort_perm _).mem_iff, hm, ← O.mem]
    have nd := O.row.nd
    constructor
    · intro hy
      refine ⟨List.mem_append_left _ hy, fun e => ?_⟩
      subst e
      exact (List.nodup_append.mp nd).2.2 y hy y (List.mem_singleton.mpr rfl) rfl
    · rintro ⟨hy, ne⟩
      rcases List.mem_append.mp hy with z | z
      · exact z
      · exact absurd (List.mem_singleton.mp z) ne
/-! without some -/
def offB (b : BkV) (s : List (List Nat)) : BkV := b.map fun r => (r.1, if !inB r.1 s then r.2 else [])
theorem off_nms (b : BkV) (s : List (List Nat)) : nmsB (offB b s) = nmsB b := by
  unfold nmsB offB
  rw [List.map_map]; rfl
theorem off_nds (s : List (List Nat)) {x : List Nat} (hx : x ∈ nmsB b) : nds (offB b s) x = if inB x s then [] else nds b x := by
  unfold nds ofK offB
  rw [List.find?_map]
  show Option.getD (Option.map _ (Option.map _ (List.find? (fun r : List Nat × List (List (List Nat)) => decide (r.1 = x)) b))) [] = _
  cases q : b.find? fun r => decide (r.1 = x) with
  | none =>
    obtain ⟨r, hr, e⟩ := List.mem_map.mp hx
    exact absurd (List.find?_eq_none.mp q r hr) (by simp [e])
  | some r =>
    have h0 := List.find?_some q
    have h1 : r.1 = x := of_decide_eq_true h0
    subst h1
    show (if !inB r.1 s then r.2 else []) = _
    cases inB r.1 s <;> rfl
theorem off_lets (s u : List (List Nat)) {x : List Nat} (hx : x ∈ nmsB b) : letsB (offB b s) u x = (!inB x s && letsB b u x) := by
  unfold letsB
  rw [off_nds s hx]
  cases inB x s <;> simp
theorem off_row {s r : List (List Nat)} : Row (offB b s) r ↔ Row b r ∧ ∀ x ∈ r, x ∉ s := by
  constructor
  · intro h
    induction h with
    | nil => exact ⟨.nil, fun _ h => nomatch h⟩
    | @snoc r x _ hm hl ih =>
      rw [off_nms] at hm
      rw [off_lets _ _ hm, Bool.and_eq_true] at hl
      refine ⟨ih.1.snoc hm hl.2, fun y hy => ?_⟩
      rcases List.mem_append.mp hy with z | z
      · exact ih.2 y z
      · rw [List.mem_singleton.mp z]
        have := hl.1
        simp only [Bool.not_eq_true', inB_no] at this
        exact this
  · rintro ⟨h, h2⟩
    induction h with
    | nil => exact .nil
    | @snoc r x _ hm hl ih =>
      refine (ih fun y hy => h2 y (List.mem_append_left _ hy)).snoc (by rw [off_nms]; exact hm) ?_
      rw [off_lets _ _ hm, Bool.and_eq_true]
      exact ⟨by simp only [Bool.not_eq_true', inB_no]; exact h2 x (List.mem_append_right _ (List.mem_singleton.mpr rfl)), hl⟩
theorem off_order {s o : List (List Nat)} (O : Order (offB b s) o) {x : List Nat} : x ∈ o ↔ x ∈ gwB b ((nmsB b).filter fun y => !inB y s) := by
  have hs : ∀ y ∈ (nmsB b).filter (fun y => !inB y s), y ∈ nmsB b := fun y hy => (List.mem_filter.mp hy).1
  obtain ⟨h1, h2⟩ := off_row.mp O.row
  rw [gw_mem hs]
  constructor
  · exact fun hx => rw_most hs h1 (fun y hy => List.mem_filter.mpr ⟨h1.sub y hy, by simp only [Bool.not_eq_true', inB_no]; exact h2 y hy⟩) x hx
  · refine fun hx => O.most (off_row.mpr ⟨rw_row hs, fun y hy => ?_⟩) x hx
    have := (List.mem_filter.mp (rw_sub hs y hy)).2
    simp only [Bool.not_eq_true', inB_no] at this
    exact this
/-! all orders by a stack -/
def comeB (b : BkV) (u : List (List Nat)) : List (List Nat) := (nmsB b).filter (letsB b u)
def wT : Nat → Nat
  | 0 => 1
  | n + 1 => 1 + (n + 1) * wT n
def wS (n : Nat) (st : List (List (List Nat))) : Nat := (st.map fun s => wT (n - s.length)).sum
theorem wT_pos : ∀ n, 1 ≤ wT n
  | 0 => Nat.le_refl _
  | n + 1 => by unfold wT; omega
theorem wS_app (n : Nat) (s t : List (List (List Nat))) : wS n (s ++ t) = wS n s + wS n t := by unfold wS; simp
theorem wS_len (n : Nat) : ∀ st : List (List (List Nat)), st.length ≤ wS n st
  | [] => Nat.zero_le _
  | s :: st => by
    have h1 := wS_len n st
    have h2 := wT_pos (n - s.length)
    unfold wS at *
    simp only [List.map_cons, List.sum_cons, List.length_cons]
    omega
theorem come_few {u : List (List Nat)} (h : Row b u) (nd : (nmsB b).Nodup) : (comeB b u).length + u.length ≤ b.length := by
  have h1 : (u ++ comeB b u).Nodup := List.nodup_append.mpr ⟨h.nd, nd.filter _, fun x hx y hy e => by
    subst e
    exact (letsB_iff.mp (List.mem_filter.mp hy).2).1 hx⟩
  have h2 := nodup_sub h1 (m := nmsB b) fun x hx => (List.mem_append.mp hx).elim (h.sub x) fun z => (List.mem_filter.mp z).1
  rw [List.length_append, List.length_map] at h2
  omega
theorem come_w {u : List (List Nat)} (h : Row b u) (nd : (nmsB b).Nodup) : wS b.length ((comeB b u).map fun x => u ++ [x]) + 1 ≤ wT (b.length - u.length) := by
  have hf := come_few h nd
  have key : ∀ l : List (List Nat), wS b.length (l.map fun x => u ++ [x]) = l.length * wT (b.length - (u.length + 1)) := fun l => by
    unfold wS
    induction l with
    | nil => simp
    | cons x l ih =>
      simp only [List.map_cons, List.sum_cons, List.length_cons, Nat.succ_mul, List.length_append, List.length_nil, Nat.zero_add] at ih ⊢
      rw [ih]
      omega
  rw [key]
  cases hk : b.length - u.length with
  | zero =>
    have : (comeB b u).length = 0 := by omega
    rw [this]
    simp [wT]
  | succ m =>
    have e : b.length - (u.length + 1) = m := by omega
    rw [e]
    have : (comeB b u).length ≤ m + 1 := by omega
    have := Nat.mul_le_mul_right (wT m) this
    show _ + 1 ≤ 1 + (m + 1) * wT m
    omega
structure StkOk (b : BkV) (st rd : List (List (List Nat))) : Prop where
  rows : ∀ s ∈ st, Row b s
  ords : ∀ r ∈ rd, Order b r
  all : ∀ o, Order b o → o ∈ rd ∨ ∃ s ∈ st, s <+: o
theorem stk_step {st rd : List (List (List Nat))} {u : List (List Nat)} (S : StkOk b (st ++ [u]) rd) : StkOk b (st ++ (comeB b u).map fun x => u ++ [x]) (if (comeB b u).isEmpty then rd ++ [u] else rd) := by
  have hu : Row b u := S.rows u (List.mem_append_right _ (List.mem_singleton.mpr rfl))
  refine ⟨fun s hs => ?_, fun r hr => ?_, fun o O => ?_⟩
  · rcases List.mem_append.mp hs with h | h
    · exact S.rows s (List.mem_append_left _ h)
    · obtain ⟨x, hx, rfl⟩ := List.mem_map.mp h
      obtain ⟨h1, h2⟩ := List.mem_filter.mp hx
      exact hu.snoc h1 h2
  · split at hr
    · rename_i hc
      rcases List.mem_append.mp hr with h | h
      · exact S.ords r h
      · rw [List.mem_singleton.mp h]
        refine ⟨hu, fun x hx => ?_⟩
        cases q : letsB b u x with
        | false => rfl
        | true =>
          have : x ∈ comeB b u := List.mem_filter.mpr ⟨hx, q⟩
          rw [List.isEmpty_iff.mp hc] at this
          cases this
    · exact S.ords r hr
  · rcases S.all o O with h | ⟨s, hs, hp⟩
    · left
      split
      · exact List.mem_append_left _ h
      · exact h
    · rcases List.mem_append.mp hs with h | h
      · exact .inr ⟨s, List.mem_append_left _ h, hp⟩
      · rw [List.mem_singleton.mp h] at hp
        obtain ⟨t, rfl⟩ := hp
        cases t with
        | nil =>
          rw [List.append_nil] at O ⊢
          have : comeB b u = [] := List.filter_eq_nil_iff.mpr fun x hx => by rw [O.fin x hx]; exact Bool.false_ne_true
          left
          rw [this]
          exact List.mem_append_right _ (List.mem_singleton.mpr rfl)
        | cons x t =>
          have hr : Row b (u ++ [x]) := Row.pre (s := t) (by simpa using O.row)
          obtain ⟨_, h1, h2⟩ := hr.init
          exact .inr ⟨u ++ [x], List.mem_append_right _ (List.mem_map.mpr ⟨x, List.mem_filter.mpr ⟨h1, h2⟩, rfl⟩), t, by simp⟩
end
end U
end

section
set_option Elab.async false
set_option linter.all false
set_option maxRecDepth 100000
set_option maxHeartbeats 1000000
namespace U
open PySem PySem.Spec PyProof.Rows L2
/-! a drawn book -/
def allN : List (List Nat) := [[97], [98], [99], [100, 105, 115, 107], [101], [110, 101, 116], [119, 101, 98], [120]]
structure TagOk (ts : List (List Nat)) : Prop where
  up : Up ltN ts
  few : ts.length ≤ 5
  gn : ∀ x ∈ ts, GN x
theorem set_good {ts s : List (List Nat)} (gt : ∀ x ∈ ts, GN x) (ht : ts.length ≤ 5) (h : s.Nodup) (hs : ∀ x ∈ s, x ∈ ts) {k : Kd} : Good (.seq k .nm) [8] s := ⟨Nat.le_trans (nodup_sub h hs) (show ts.length ≤ 8 by omega), fun x hx => gt x (hs x hx)⟩
structure BookOk (ts : List (List Nat)) (b : BkV) : Prop where
  nms : b.map (·.1) = ts
  few : ∀ r ∈ b, r.2.length ≤ 4
  set : ∀ r ∈ b, ∀ s ∈ r.2, s.Nodup ∧ ∀ x ∈ s, x ∈ ts
theorem wants_ok {c : Nat} {u : List D} {ts : List (List Nat)} {fd : List D} {v1 s4 s6 : Sl} (n : Nat) (hn : n ≤ 3) (hu : Urn c u) (hc : c + 2000 < 2 ^ 60) (Tg : TagOk ts) (f6 : s6.free = true) :
    ∃ (u' : List D) (ns : List (List (List Nat))) (t6 : Sl), Urn (c + 200) u' ∧ ns.length ≤ 3 ∧ (∀ s ∈ ns, s.Nodup ∧ ∀ x ∈ s, x ∈ ts) ∧ t6.free = true ∧
    forL b0__law_book (rng 0 n) [.io (.l u), v1, .val (.lst (ts.map (enc .nm))), .own (.l fd), s4, .own (.l []), s6] = .nx [.io (.l u'), v1, .val (.lst (ts.map (enc .nm))), .own (.l fd), s4, .own (.l (ns.map (enc tSt))), t6] := by
  rw [rng_eq]
  have ht := Tg.few
  have nt := up_nodup oN Tg.up
  obtain ⟨τ', e, u', ns, t6, rfl, hu', hl, hs, g6⟩ := forL_pre (g := fun (j : Nat) => D.int (j : Int)) (body := b0__law_book) (fun pre τ => ∃ (u' : List D) (ns : List (List (List Nat))) (t6 : Sl), τ = [.io (.l u'), v1, .val (.lst (ts.map (enc .nm))), .own (.l fd), s4, .own (.l (ns.map (enc tSt))), t6] ∧ Urn (c + 61 * pre.length) u' ∧ ns.length = pre.length ∧ (∀ s ∈ ns, s.Nodup ∧ ∀ x ∈ s, x ∈ ts) ∧ t6.free = true) (List.range n) (τ := [.io (.l u), v1, .val (.lst (ts.map (enc .nm))), .own (.l fd), s4, .own (.l []), s6]) ⟨u, [], s6, rfl, hu, rfl, (fun _ h => nomatch h), f6⟩ fun pre x post τ ex hI => by
    obtain ⟨u0, ns, t6, rfl, hu0, hl, hs, g6⟩ := hI
    have hpl : pre.length + 1 ≤ n := by
      have := congrArg List.length ex
      rw [List.length_range, List.length_append, List.length_cons] at this
      omega
    obtain ⟨d, u1, hd, hu1, e1⟩ := take_nat 3 hu0 (by omega) (by decide) (by decide)
    have e1 : den__law_take [.io (.l u0), .val (.int 3)] = .ok (.d (.int (d : Int))) [.io (.l u1), .no] := e1
    obtain ⟨u2, fs, hu2, hsub, _, e2⟩ := pick_ok false hu1 (ns := ts) d (by omega) (by omega)
    have e2 : den__law_pick [.io (.l u1), .val (.lst (ts.map (enc .nm))), .val (.int d)] = .ok (.o (.l (fs.map (enc .nm)))) [.io (.l u2), .no, .no] := e2
    have fn : fs.Nodup := hsub.nodup nt
    have so : gSorted (.lst (fs.map (enc .nm))) = some (.o (.l ((isort ltN fs).map (enc .nm)))) := t_sorted (t := .nm) (h := false) (b := [8]) rfl (set_good Tg.gn ht fn fun x hx => hsub.subset hx) rfl (by decide) (by decide)
    have gtp : gTuple (.lst ((isort ltN fs).map (enc .nm))) = some (.d (.tup ((isort ltN fs).map (enc .nm)))) := rfl
    have ll : ((ns.map (enc tSt)).length < lim) = True := by rw [List.length_map]; exact limT (by omega)
    have l1 : (pre ++ [x]).length = pre.length + 1 := by simp
    refine ⟨_, ?_, u2, ns ++ [isort ltN fs], .val (.int (x : Int)), rfl, hu2.mono (by rw [l1]; omega), by rw [l1, List.length_append, List.length_singleton, hl], fun z hz => (List.mem_append.mp hz).elim (hs z) fun q => by
      rw [List.mem_singleton.mp q]
      exact ⟨(isort_perm _).symm.nodup fn, fun y hy => hsub.subset ((isort_perm _).mem_iff.mp hy)⟩, rfl⟩
    simp only [star_eq, gTp_l, evl, evl2, evl3, evl4, evl5, evl6, evl7, evl8, evl9, evl10, evl11, evl12, prim, slotsE, eqE, t_sq, if_true, if_false, Bool.false_eq_true, nd0, nd1, toD_l, List.length_cons, List.length_nil, Nat.reduceAdd, limE, Bool.false_bne, Bool.true_bne, Bool.not_true, Bool.not_false, b0__law_book, g6, e1, e2, so, gtp, ll, List.map_append, List.map_cons, List.map_nil]
    rfl
  rw [List.length_range] at hu' hl
  exact ⟨u', ns, t6, hu'.mono (by omega), by omega, hs, g6, e⟩
theorem book_ok {c : Nat} {u : List D} (hu : Urn c u) (hc : c + 9000 < 2 ^ 60) : ∃ (u' : List D) (ts : List (List Nat)) (b : BkV), Urn (c + 1500) u' ∧ TagOk ts ∧ BookOk ts b ∧ den__law_book [.io (.l u), .val (.int 5)] = .ok (.d (.tup (b.map (enc (tRow true))))) [.io (.l u'), .no] := by
  obtain ⟨d0, ua, hd0, hua, ea⟩ := take_nat 5 hu (by omega) (by decide) (by decide)
  have ea : den__law_take [.io (.l u), .val (.int 5)] = .ok (.d (.int (d0 : Int))) [.io (.l ua), .no] := ea
  have ei : (1 : Int) + (d0 : Int) = ((1 + d0 : Nat) : Int) := by omega
  obtain ⟨ub, fs, hub, hsub, hfl, eb⟩ := pick_ok false hua (ns := allN) (1 + d0) (by omega) (by decide)
  have eb : den__law_pick [.io (.l ua), .val (.lst [.str [97], .str [98], .str [99], .str [100, 105, 115, 107], .str [101], .str [110, 101, 116], .str [119, 101, 98], .str [120]]), .val (.int ((1 + d0 : Nat) : Int))] = .ok (.o (.l (fs.map (enc .nm)))) [.io (.l ub), .no, .no] := eb
  have ng : ∀ x ∈ allN, GN x := by unfold GN; decide
  have nn : allN.Nodup := by decide
  have fg : ∀ x ∈ fs, GN x := fun x hx => ng x (hsub.subset hx)
  have fn : fs.Nodup := hsub.nodup nn
  have so : gSorted (.lst (fs.map (enc .nm))) = some (.o (.l ((isort ltN fs).map (enc .nm)))) := t_sorted (t := .nm) (h := false) (b := [8]) rfl ⟨by show fs.length ≤ 8; omega, fg⟩ rfl (by decide) (by decide)
  have Tg : TagOk (isort ltN fs) := ⟨isort_up oN fn, by rw [(isort_perm _).length_eq]; omega, fun x hx => fg x ((isort_perm _).mem_iff.mp hx)⟩
  generalize isort ltN fs = ts at so Tg
  have ht := Tg.few
  obtain ⟨τ', e, u', b, t4, t5, t6, rfl, hu', hb, hr, hr2, g4, g5, g6⟩ := forL_pre (g := enc .nm) (body := b1__law_book) (fun pre τ => ∃ (u' : List D) (b : BkV) (t4 t5 t6 : Sl), τ = [.io (.l u'), .val (.int 5), .val (.lst (ts.map (enc .nm))), .own (.l (b.map (enc (tRow true)))), t4, t5, t6] ∧ Urn (c + 61 + 210 * pre.length) u' ∧ b.map (·.1) = pre ∧ (∀ r ∈ b, r.2.length ≤ 4) ∧ (∀ r ∈ b, ∀ s ∈ r.2, s.Nodup ∧ ∀ x ∈ s, x ∈ ts) ∧ t4.free = true ∧ t5.free = true ∧ t6.free = true) ts (τ := [.io (.l ub), .val (.int 5), .val (.lst (ts.map (enc .nm))), .own (.l []), .no, .no, .no]) ⟨ub, [], .no, .no, .no, rfl, hub.mono (by omega), rfl, (fun _ h => nomatch h), (fun _ h => nomatch h), rfl, rfl, rfl⟩ fun pre x post τ ex hI => by
    obtain ⟨u0, b, t4, t5, t6, rfl, hu0, hb, hr, hr2, g4, g5, g6⟩ := hI
    have hx : x ∈ ts := by rw [ex]; simp
    have hpl : pre.length + 1 ≤ ts.length := by rw [ex]; simp
    have hbl : b.length = pre.length := by rw [← hb, List.length_map]
    obtain ⟨n, u1, hn, hu1, e1⟩ := take_nat 4 hu0 (by omega) (by decide) (by decide)
    have e1 : den__law_take [.io (.l u0), .val (.int 4)] = .ok (.d (.int (n : Int))) [.io (.l u1), .no] := e1
    obtain ⟨u2, ns, r6, hu2, hl, hs, k6, e2⟩ := wants_ok (fd := b.map (enc (tRow true))) (v1 := .val (.int 5)) (s4 := .val (.str x)) n (by omega) hu1 (by omega) Tg g6
    obtain ⟨d, u3, hd, hu3, e3⟩ := take_nat 4 hu2 (by omega) (by decide) (by decide)
    have e3 : den__law_take [.io (.l u2), .val (.int 4)] = .ok (.d (.int (d : Int))) [.io (.l u3), .no] := e3
    have z := int_eq0 d
    have l1 : (pre ++ [x]).length = pre.length + 1 := by simp
    have lb : ((b.map (enc (tRow true))).length < lim) = True := by rw [List.length_map]; exact limT (by omega)
    have ln : ((ns.map (enc tSt)).length < lim) = True := by rw [List.length_map]; exact limT (by omega)
    have sm := small62 (n := n) (by omega)
    have tn := toNatI n
    have fin : ∀ ms : List (List (List Nat)), ms.length ≤ 4 → (∀ s ∈ ms, s.Nodup ∧ ∀ x ∈ s, x ∈ ts) → gSS (.lst (ms.map (enc tSt))) = some (.o (.l ((sof' (ltT tSt) ms).map (enc tSt)))) ∧ (∀ r ∈ b ++ [(x, sof' (ltT tSt) ms)], r.2.length ≤ 4) ∧ (∀ r ∈ b ++ [(x, sof' (ltT tSt) ms)], ∀ s ∈ r.2, s.Nodup ∧ ∀ x ∈ s, x ∈ ts) := fun ms hm hs => by
      refine ⟨t_set' (t := tSt) (h := false) (b := [4, 8]) rfl ⟨hm, fun s h => set_good Tg.gn ht (hs s h).1 (hs s h).2⟩ rfl rfl (by decide) (by decide), fun r h => ?_, fun r h => ?_⟩
      · rcases List.mem_append.mp h with h | h
        · exact hr r h
        · rw [List.mem_singleton.mp h]
          show (sof' (ltT tSt) ms).length ≤ 4
          unfold sof'
          rw [(isort_perm _).length_eq]
          exact Nat.le_trans (dd_len ms) hm
      · rcases List.mem_append.mp h with h | h
        · exact hr2 r h
        · rw [List.mem_singleton.mp h]
          exact fun s hs' => hs s (sof_mem.mp hs')
    have bm : ∀ ms, (b ++ [(x, sof' (ltT tSt) ms)]).map (·.1) = pre ++ [x] := fun ms => by rw [List.map_append, hb]; rfl
    show ∃ τ', b1__law_book (.str x) _ = _ ∧ _
    cases q : decide (d = 0)
    · obtain ⟨e4, h4, h5⟩ := fin ns (by omega) hs
      have gtp : gTuple (.lst ((sof' (ltT tSt) ns).map (enc tSt))) = some (.d (.tup ((sof' (ltT tSt) ns).map (enc tSt)))) := rfl
      refine ⟨_, ?_, u3, b ++ [(x, sof' (ltT tSt) ns)], .val (.str x), .own (.l (ns.map (enc tSt))), r6, rfl, hu3.mono (by rw [l1]; omega), bm ns, h4, h5, rfl, rfl, k6⟩
      simp only [star_eq, gTp_l, evl, evl2, evl3, evl4, evl5, evl6, evl7, evl8, evl9, evl10, evl11, evl12, prim, slotsE, eqE, t_sq, if_true, if_false, Bool.false_eq_true, nd0, nd1, toD_l, List.length_cons, List.length_nil, Nat.reduceAdd, limE, Bool.false_bne, Bool.true_bne, Bool.not_true, Bool.not_false, b1__law_book, g4, g5, e1, sm, tn, e2, e3, z, q, e4, gtp, lb, List.map_append, List.map_cons, List.map_nil]
      rfl
    · obtain ⟨e4, h4, h5⟩ := fin (ns ++ [[]]) (by rw [List.length_append, List.length_singleton]; omega) fun s h => (List.mem_append.mp h).elim (hs s) fun h => by rw [List.mem_singleton.mp h]; exact ⟨List.nodup_nil, fun _ h => nomatch h⟩
      have e4 : gSS (.lst (ns.map (enc tSt) ++ [.tup []])) = some (.o (.l ((sof' (ltT tSt) (ns ++ [[]])).map (enc tSt)))) := by rw [List.map_append] at e4; exact e4
      have gtp : gTuple (.lst ((sof' (ltT tSt) (ns ++ [[]])).map (enc tSt))) = some (.d (.tup ((sof' (ltT tSt) (ns ++ [[]])).map (enc tSt)))) := rfl
      refine ⟨_, ?_, u3, b ++ [(x, sof' (ltT tSt) (ns ++ [[]]))], .val (.str x), .own (.l (ns.map (enc tSt) ++ [.tup []])), r6, rfl, hu3.mono (by rw [l1]; omega), bm _, h4, h5, rfl, rfl, k6⟩
      simp only [star_eq, gTp_l, evl, evl2, evl3, evl4, evl5, evl6, evl7, evl8, evl9, evl10, evl11, evl12, prim, slotsE, eqE, t_sq, if_true, if_false, Bool.false_eq_true, nd0, nd1, toD_l, List.length_cons, List.length_nil, Nat.reduceAdd, limE, Bool.false_bne, Bool.true_bne, Bool.not_true, Bool.not_false, b1__law_book, g4, g5, e1, sm, tn, e2, e3, z, q, ln, e4, gtp, lb, List.map_append, List.map_cons, List.map_nil]
      rfl
  refine ⟨u', ts, b, hu'.mono (by omega), Tg, ⟨hb, hr, hr2⟩, ?_⟩
  have gp : gTuple (.lst (b.map (enc (tRow true)))) = some (.d (.tup (b.map (enc (tRow true))))) := rfl
  have it : (D.lst (ts.map (enc .nm))).items = some (ts.map (enc .nm)) := rfl
  show DR.of (f__law_book [.io (.l u), .val (.int 5), .no, .no, .no, .no, .no]) [.io (.l u), .val (.int 5)] = _
  rw [nE__law_book]
  simp only [star_eq, gTp_l, evl, evl2, evl3, evl4, evl5, evl6, evl7, evl8, evl9, evl10, evl11, evl12, prim, slotsE, eqE, t_sq, if_true, if_false, Bool.false_eq_true, nd0, nd1, toD_l, List.length_cons, List.length_nil, Nat.reduceAdd, limE, Bool.false_bne, Bool.true_bne, Bool.not_true, Bool.not_false, ea, ei, eb, so, it, e, gp]
theorem BookOk.bk {ts : List (List Nat)} {b : BkV} (Tg : TagOk ts) (K : BookOk ts b) (k : Kd) (h : Bool) : BkOk k h b where
  g := ⟨by
    have : b.length = ts.length := by rw [← K.nms, List.length_map]
    rw [this]
    exact Nat.le_trans Tg.few (by decide), fun r hr => ⟨Tg.gn _ (by rw [← K.nms]; exact List.mem_map.mpr ⟨r, hr, rfl⟩), Nat.le_trans (K.few r hr) (by decide), fun s hs => set_good Tg.gn Tg.few (K.set r hr s hs).1 (K.set r hr s hs).2⟩⟩
  nd := by rw [K.nms]; exact up_nodup oN Tg.up
end U
end

section
set_option Elab.async false
set_option linter.all false
set_option maxRecDepth 100000
set_option maxHeartbeats 1000000
namespace U
open PySem PySem.Spec PyProof.Rows L2
theorem come_eq {b : BkV} (nd : (b.map (·.1)).Nodup) (u : List (List Nat)) : p__law_come b u = comeB b u := by
  unfold p__law_come comeB nmsB
  rw [List.filter_map]
  congr 1
  refine List.filter_congr fun r hr => ?_
  show _ = letsB b u r.1
  unfold letsB
  rw [nds_row nd hr, filt_any]
  congr 2
  funext s
  exact filt_all (p := fun x => inB x u) s
section
variable {b : BkV}
theorem come_ok (B : BkOk (.b true) true b) {u : List (List Nat)} (hu : Row b u) : den__law_come [.val (.tup (b.map (enc (tRow true)))), .val (.tup (u.map (enc .nm)))] = .ok (.o (.l ((comeB b u).map (enc .nm)))) [.no, .no] := by
  have w := w__law_come (a0 := b) (a1 := u) B.g ⟨Nat.le_trans hu.len B.g.1, fun x hx => B.gn (hu.sub x hx)⟩
  rw [come_eq B.nd] at w
  exact w.1
theorem pop_last {xs : List D} {x : D} : mPop (.l (xs ++ [x])) [] = some (x, .l xs) := by
  show (((xs ++ [x])[(xs ++ [x]).length - 1]?).map fun d => (d, OV.l (xs ++ [x]).dropLast)) = _
  simp
theorem ord_loop {t : T → Rs Bool} {bd : T → SR} {v0 : Sl} (nd : (nmsB b).Nodup)
    (ht : ∀ (st : List (List (List Nat))) (s2 s3 s4 : Sl), (∀ s ∈ st, Row b s) → t [v0, .own (.l (st.map (enc tSt))), s2, s3, s4, .no] = .ok (!st.isEmpty) [v0, .own (.l (st.map (enc tSt))), s2, s3, s4, .no])
    (hb : ∀ (st rd : List (List (List Nat))) (u : List (List Nat)) (s3 s4 : Sl), s3.free = true → s4.free = true → (∀ s ∈ st, Row b s) → Row b u → (∀ s ∈ rd, Row b s) → st.length + rd.length ≤ 400 → ∃ s3' s4', s3'.free = true ∧ s4'.free = true ∧ bd [v0, .own (.l ((st ++ [u]).map (enc tSt))), .own (.l (rd.map (enc tSt))), s3, s4, .no] = .nx [v0, .own (.l ((st ++ (comeB b u).map fun x => u ++ [x]).map (enc tSt))), .own (.l ((if (comeB b u).isEmpty then rd ++ [u] else rd).map (enc tSt))), s3', s4', .no]) :
    ∀ (k : Nat) (st rd : List (List (List Nat))) (s3 s4 : Sl), StkOk b st rd → wS b.length st ≤ k → k + rd.length ≤ 390 → s3.free = true → s4.free = true → ∀ n, k + 1 ≤ n → ∃ (rd' : List (List (List Nat))) (s3' s4' : Sl), StkOk b [] rd' ∧ rd'.length ≤ k + rd.length ∧ whileL t bd n [v0, .own (.l (st.map (enc tSt))), .own (.l (rd.map (enc tSt))), s3, s4, .no] = .nx [v0, .own (.l []), .own (.l (rd'.map (enc tSt))), s3', s4', .no] := by
  intro k
  induction k with
  | zero =>
    intro st rd s3 s4 S hw hl f3 f4 n hn
    obtain ⟨m, rfl⟩ : ∃ m, n = m + 1 := ⟨n - 1, by omega⟩
    have h0 := wS_len b.length st
    have : st = [] := List.length_eq_zero_iff.mp (by omega)
    subst this
    exact ⟨rd, s3, s4, S, by omega, while_end (ht [] _ s3 s4 S.rows)⟩
  | succ k ih =>
    intro st rd s3 s4 S hw hl f3 f4 n hn
    obtain ⟨m, rfl⟩ : ∃ m, n = m + 1 := ⟨n - 1, by omega⟩
    rcases List.eq_nil_or_concat st with rfl | ⟨st, u, rfl⟩
    · exact ⟨rd, s3, s4, S, by omega, while_end (ht [] _ s3 s4 S.rows)⟩
    · rw [List.concat_eq_append] at S hw ⊢
      have hu : Row b u := S.rows u (List.mem_append_right _ (List.mem_singleton.mpr rfl))
      have hw2 := come_w hu nd
      rw [wS_app] at hw
      have e1 : wS b.length [u] = wT (b.length - u.length) := by simp [wS]
      rw [e1] at hw
      have hsl := wS_len b.length st
      obtain ⟨s3', s4', g3, g4, e⟩ := hb st rd u s3 s4 f3 f4 (fun s hs => S.rows s (List.mem_append_left _ hs)) hu (fun s hs => (S.ords s hs).row) (by omega)
      obtain ⟨rd', t3, t4, S', hl', e'⟩ := ih _ _ s3' s4' (stk_step S) (by rw [wS_app]; omega) (by
        have : (if (comeB b u).isEmpty then rd ++ [u] else rd).length ≤ rd.length + 1 := by split <;> simp
        omega) g3 g4 m (by omega)
      refine ⟨rd', t3, t4, S', Nat.le_trans hl' (by
        have : (if (comeB b u).isEmpty then rd ++ [u] else rd).length ≤ rd.length + 1 := by split <;> simp
        omega), ?_⟩
      have h1 := ht (st ++ [u]) (.own (.l (rd.map (enc tSt)))) s3 s4 S.rows
      have h2 : (!(st ++ [u]).isEmpty) = true := by simp
      rw [h2] at h1
      rw [while_go h1 e]
      exact e'
theorem row_good (B : BkOk (.b true) true b) {r : List (List Nat)} (hr : Row b r) : Good tSt [9] r := ⟨Nat.le_trans hr.len B.g.1, fun y hy => B.gn (hr.sub y hy)⟩
theorem orders_ok (B : BkOk (.b true) true b) (h5 : b.length ≤ 5) : ∃ os : List (List (List Nat)), (∀ o, o ∈ os ↔ Order b o) ∧ os.length ≤ 330 ∧ den__law_orders [.val (.tup (b.map (enc (tRow true))))] = .ok (.o (.l (os.map (enc tSt)))) [.no] := by
  have W : ∃ (rd' : List (List (List Nat))) (s3' s4' : Sl), StkOk b [] rd' ∧ rd'.length ≤ 326 + 0 ∧ sWhile (sTB (sOp2 (gEq true) (sRd 1) (toB (frz (sLst (sNil)))))) (sSeq (sSet 3 (sMeth 1 mPop sNil)) (sSeq (sSet 4 (sCall den__law_come (sBCons (toB (frz (sVar 0))) (sBCons (toB (frz (sVar 3))) (sBNil))))) (sSeq (sIfS (sTB (sOp2 (gEq false) (sRd 4) (toB (frz (sLst (sNil)))))) (sDrop (sMeth 2 mAppend (sCons (frz (sVar 3)) (sNil)))) (sNext)) (sSet 1 (sOp2 gAdd (sRd 1) (toB (frz (sLcB (sItems (frz (sVar 4))) c0__law_orders [5]))))))))
      [.val (.tup (b.map (enc (tRow true)))), .own (.l [.tup []]), .own (.l []), .no, .no, .no] = .nx [.val (.tup (b.map (enc (tRow true)))), .own (.l []), .own (.l (rd'.map (enc tSt))), s3', s4', .no] := by
    rw [sWhile_eq]
    refine ord_loop (b := b) (t := _) (bd := _) (v0 := .val (.tup (b.map (enc (tRow true))))) B.nd (fun st s2 s3 s4 hr => ?_) (fun st rd u s3 s4 f3 f4 hst hu hrd hl => ?_) 326 [[]] [] .no .no ⟨fun s hs => by rw [List.mem_singleton.mp hs]; exact .nil, (fun _ h => nomatch h), fun o _ => .inr ⟨[], List.mem_singleton.mpr rfl, List.nil_prefix⟩⟩ ?_ (by decide) rfl rfl fuel (by decide)
    · have ge : gEq true (.lst (st.map (enc tSt))) (.lst []) = some (.d (.bl (!st.isEmpty))) := t_nil1 (t := tSt) (k := .b false) (b := [st.length, 9]) rfl ⟨Nat.le_refl _, fun s hs => row_good B (hr s hs)⟩ (by decide)
      simp only [star_eq, gTp_l, evl, evl2, evl3, evl4, evl5, evl6, evl7, evl8, evl9, evl10, evl11, evl12, prim, slotsE, eqE, t_sq, if_true, if_false, Bool.false_eq_true, nd0, nd1, toD_l, List.length_cons, List.length_nil, Nat.reduceAdd, limE, Bool.false_bne, Bool.true_bne, Bool.not_true, Bool.not_false, ge]
    · have ec := come_ok B hu
      have hul : u.length ≤ 9 := Nat.le_trans hu.len B.g.1
      have hcl := come_few hu B.nd
      have ge : gEq false (.lst ((comeB b u).map (enc .nm))) (.lst []) = some (.d (.bl (comeB b u).isEmpty)) := t_nil0 (t := .nm) (k := .b false) (b := [9]) rfl ⟨by show (comeB b u).length ≤ 9; omega, fun x hx => B.gn (List.mem_filter.mp hx).1⟩ (by decide)
      have hc : ∀ s1 s2 : Sl, compL c0__law_orders ((comeB b u).map (enc .nm)) [.val (.tup (b.map (enc (tRow true)))), s1, s2, .val (.tup (u.map (enc .nm))), .val (.lst ((comeB b u).map (enc .nm))), .no] [] = .ok (((comeB b u).map fun x => u ++ [x]).map (enc tSt)) [.val (.tup (b.map (enc (tRow true)))), s1, s2, .val (.tup (u.map (enc .nm))), .val (.lst ((comeB b u).map (enc .nm))), .no] := fun s1 s2 =>
        cp_map (t := tSt) (comeB b u) (lim_big (by omega)) fun x hx => by
          have ga : gAdd (.tup (u.map (enc .nm))) (.tup [.str x]) = some (.d (.tup ((u ++ [x]).map (enc .nm)))) := by
            rw [List.map_append]
            exact gAddT (by rw [List.length_map]; simp; omega)
          show c0__law_orders (.str x) _ = _
          simp only [star_eq, gTp_l, evl, evl2, evl3, evl4, evl5, evl6, evl7, evl8, evl9, evl10, evl11, evl12, prim, slotsE, eqE, t_sq, if_true, if_false, Bool.false_eq_true, nd0, nd1, toD_l, List.length_cons, List.length_nil, Nat.reduceAdd, limE, Bool.false_bne, Bool.true_bne, Bool.not_true, Bool.not_false, c0__law_orders, ga]
          rfl
      have pl : mPop (.l ((st ++ [u]).map (enc tSt))) [] = some (.tup (u.map (enc .nm)), .l (st.map (enc tSt))) := by
        rw [List.map_append]; exact pop_last
      have lr : ((rd.map (enc tSt)).length < lim) = True := by rw [List.length_map]; exact limT (by omega)
      have ga : gAdd (.lst (st.map (enc tSt))) (.lst (((comeB b u).map fun x => u ++ [x]).map (enc tSt))) = some (.o (.l ((st ++ (comeB b u).map fun x => u ++ [x]).map (enc tSt)))) := by
        rw [List.map_append]
        exact gAddL (by rw [List.length_map, List.length_map, List.length_map]; omega)
      have it : (D.lst ((comeB b u).map (enc .nm))).items = some ((comeB b u).map (enc .nm)) := rfl
      generalize ((st ++ [u]).map (enc tSt)) = stu at pl ⊢
      refine ⟨.val (.tup (u.map (enc .nm))), .val (.lst ((comeB b u).map (enc .nm))), rfl, rfl, ?_⟩
      cases q : (comeB b u).isEmpty <;> rw [q] at ge
      · simp only [star_eq, gTp_l, evl, evl2, evl3, evl4, evl5, evl6, evl7, evl8, evl9, evl10, evl11, evl12, prim, slotsE, eqE, t_sq, if_true, if_false, Bool.false_eq_true, nd0, nd1, toD_l, List.length_cons, List.length_nil, Nat.reduceAdd, limE, Bool.false_bne, Bool.true_bne, Bool.not_true, Bool.not_false, f3, f4, pl, ec, ge, it, hc, ga]
      · simp only [star_eq, gTp_l, evl, evl2, evl3, evl4, evl5, evl6, evl7, evl8, evl9, evl10, evl11, evl12, prim, slotsE, eqE, t_sq, if_true, if_false, Bool.false_eq_true, nd0, nd1, toD_l, List.length_cons, List.length_nil, Nat.reduceAdd, limE, Bool.false_bne, Bool.true_bne, Bool.not_true, Bool.not_false, f3, f4, pl, ec, ge, it, hc, ga, lr, List.map_append, List.map_cons, List.map_nil]
        rfl
    · show wS b.length [[]] ≤ 326
      have : wS b.length [[]] = wT b.length := by simp [wS]
      rw [this]
      have : ∀ n ≤ 5, wT n ≤ 326 := by decide
      exact this _ h5
  obtain ⟨rd, s3, s4, S, hl, W⟩ := W
  have ro : ∀ o, o ∈ isort (ltT tSt) rd ↔ Order b o := fun o => by
    rw [(isort_perm _).mem_iff]
    refine ⟨S.ords o, fun O => ?_⟩
    rcases S.all o O with h | ⟨s, hs, _⟩
    · exact h
    · cases hs
  refine ⟨isort (ltT tSt) rd, ro, by rw [(isort_perm _).length_eq]; omega, ?_⟩
  have so : gSorted (.lst (rd.map (enc tSt))) = some (.o (.l ((isort (ltT tSt) rd).map (enc tSt)))) := t_sorted (t := tSt) (h := false) (b := [400, 9]) rfl ⟨by show rd.length ≤ 400; omega, fun o ho => row_good B (S.ords o ho).row⟩ rfl (by decide) (by decide)
  show DR.of (f__law_orders [.val (.tup (b.map (enc (tRow true)))), .no, .no, .no, .no, .no]) [.val (.tup (b.map (enc (tRow true))))] = _
  rw [nE__law_orders]
  refine run_seq (t := [.val (.tup (b.map (enc (tRow true)))), .own (.l [.tup []]), .own (.l []), .no, .no, .no]) ?_ ?_
  · simp only [star_eq, gTp_l, evl, evl2, evl3, evl4, evl5, evl6, evl7, evl8, evl9, evl10, evl11, evl12, prim, slotsE, eqE, t_sq, if_true, if_false, Bool.false_eq_true, nd0, nd1, toD_l, List.length_cons, List.length_nil, Nat.reduceAdd, limE, Bool.false_bne, Bool.true_bne, Bool.not_true, Bool.not_false]
  refine run_seq W ?_
  simp only [star_eq, gTp_l, evl, evl2, evl3, evl4, evl5, evl6, evl7, evl8, evl9, evl10, evl11, evl12, prim, slotsE, eqE, t_sq, if_true, if_false, Bool.false_eq_true, nd0, nd1, toD_l, List.length_cons, List.length_nil, Nat.reduceAdd, limE, Bool.false_bne, Bool.true_bne, Bool.not_true, Bool.not_false, so]
end
end U
end

section
set_option Elab.async false
set_option linter.all false
set_option maxRecDepth 100000
set_option maxHeartbeats 1000000
namespace U
open PySem PySem.Spec PyProof.Rows L2
theorem at_last {α : Type} (xs : List α) (x : α) : atI (xs ++ [x]) (-1) = some x := by
  unfold atI ixN
  rw [if_neg (by decide)]
  simp
  rw [if_pos (by omega)]
  have : (-1 + ((xs.length : Int) + 1)).toNat = xs.length := by omega
  simp [this]
section
variable {k : Kd} {h h1 : Bool} {b : BkV}
def outB (l : List (List Nat)) (x : List Nat) : List (List Nat) := l.filter fun y => !decide (y = x)
def lastB (b : BkV) : List (List Nat) := (allB b).filter fun x => decide (gwB b (outB (allB b) x) = outB (allB b) x)
theorem all_good (B : BkOk k h b) {hb : Kd} : Good (.seq hb .nm) [9] (allB b) := gw_good B nm_self
theorem last_ok (B : BkOk k h b) : den_last_ones [.val (sk k (b.map (enc (tRow h))))] = .ok (.d (.tup ((lastB b).map (enc .nm)))) [.no] := by
  have e1 := whole_ok B
  have ga := all_good (hb := .b true) B
  have hc : compL c0_last_ones ((allB b).map (enc .nm)) [.val (sk k (b.map (enc (tRow h)))), .val (.tup ((allB b).map (enc .nm))), .no] [] = .ok ((lastB b).map (enc .nm)) [.val (sk k (b.map (enc (tRow h)))), .val (.tup ((allB b).map (enc .nm))), .no] :=
    cp_fid (t := .nm) (q := fun x => decide (gwB b (outB (allB b) x) = outB (allB b) x)) (allB b) (Nat.le_trans ga.1 (by decide)) fun x hx => by
      have w := w_without (a0 := allB b) (a1 := x) ga (ga.2 x hx)
      have w1 : den_without [.val (.tup ((allB b).map (enc .nm))), .val (.str x)] = .ok (.d (.tup ((outB (allB b) x).map (enc .nm)))) [.no, .no] := w.1
      have w2 : Good (.seq (.b true) .nm) [9] (outB (allB b) x) := w.2
      have hs : ∀ y ∈ outB (allB b) x, y ∈ nmsB b := fun y hy => gw_sub nm_self y (List.mem_filter.mp hy).1
      have e2 : den_greatest_within [.val (sk k (b.map (enc (tRow h)))), .val (.tup ((outB (allB b) x).map (enc .nm)))] = _ := greatest_ok (h1 := true) B w2 hs
      have e3 : gEq false (.tup ((gwB b (outB (allB b) x)).map (enc .nm))) (.tup ((outB (allB b) x).map (enc .nm))) = some (.d (.bl (decide (gwB b (outB (allB b) x) = outB (allB b) x)))) := t_eq0 (t := .seq (.b true) .nm) rfl (gw_good B hs) w2 (by decide)
      show c0_last_ones (.str x) _ = _
      generalize decide (gwB b (outB (allB b) x) = outB (allB b) x) = bb at e3 ⊢
      cases bb <;> (simp only [star_eq, gTp_l, evl, evl2, evl3, evl4, evl5, evl6, evl7, evl8, evl9, evl10, evl11, evl12, prim, slotsE, eqE, t_sq, if_true, if_false, Bool.false_eq_true, nd0, nd1, toD_l, List.length_cons, List.length_nil, Nat.reduceAdd, limE, Bool.false_bne, Bool.true_bne, Bool.not_true, Bool.not_false, c0_last_ones, w1, e2, e3] <;> first | done | rfl)
  have it : (D.tup ((allB b).map (enc .nm))).items = some ((allB b).map (enc .nm)) := rfl
  have gt : gTuple (.lst ((lastB b).map (enc .nm))) = some (.d (.tup ((lastB b).map (enc .nm)))) := rfl
  show DR.of (f_last_ones [.val (sk k (b.map (enc (tRow h)))), .no, .no]) [.val (sk k (b.map (enc (tRow h))))] = _
  rw [nE_last_ones]
  simp only [star_eq, gTp_l, evl, evl2, evl3, evl4, evl5, evl6, evl7, evl8, evl9, evl10, evl11, evl12, prim, slotsE, eqE, t_sq, if_true, if_false, Bool.false_eq_true, nd0, nd1, toD_l, List.length_cons, List.length_nil, Nat.reduceAdd, limE, Bool.false_bne, Bool.true_bne, Bool.not_true, Bool.not_false, e1, it, hc, gt]
def restB (b : BkV) (s : List (List Nat)) : List (List Nat) := (nmsB b).filter fun y => !inB y s
def lostB (b : BkV) (s : List (List Nat)) : List (List Nat) := (allB b).filter fun y => !inB y (gwB b (restB b s))
theorem lost_ok {s : List (List Nat)} (B : BkOk k h b) (gs : Good (.seq (.b h1) .nm) [9] s) (hs : ∀ x ∈ s, x ∈ nmsB b) : den_lost_without [.val (sk k (b.map (enc (tRow h)))), .val (sq h1 (s.map (enc .nm)))] = .ok (.d (.tup ((lostB b s).map (enc .nm)))) [.no, .no] := by
  have e0 := check_ok (h1 := h1) B.g (fun x hx => gs.2 x hx) hs
  have e1 := whole_ok B
  have ga := all_good (hb := .b true) B
  have bl : b.length ≤ 9 := B.g.1
  have hr : ∀ y ∈ restB b s, y ∈ nmsB b := fun y hy => (List.mem_filter.mp hy).1
  have gr : Good (.seq (.b true) .nm) [9] (restB b s) := ⟨Nat.le_trans (List.length_filter_le ..) (by rw [List.length_map]; exact bl), fun y hy => B.gn (hr y hy)⟩
  have gk := gw_good B hr
  have e2 : den_greatest_within [.val (sk k (b.map (enc (tRow h)))), .val (.tup ((restB b s).map (enc .nm)))] = _ := greatest_ok (h1 := true) B gr hr
  have hc0 : compL c0_lost_without (b.map (enc (tRow h))) [.val (sk k (b.map (enc (tRow h)))), .val (sq h1 (s.map (enc .nm))), .no, .no, .no] [] = .ok ((restB b s).map (enc .nm)) [.val (sk k (b.map (enc (tRow h)))), .val (sq h1 (s.map (enc .nm))), .no, .no, .no] := by
    have er : restB b s = (b.filter fun r => !inB r.1 s).map (·.1) := by unfold restB nmsB; rw [List.filter_map]; rfl
    rw [er]
    refine cp_filt (t := .nm) (g := enc (tRow h)) b (lim_big (by omega)) fun r hr => ?_
    have gi : gIn true (.str r.1) (sq h1 (s.map (enc .nm))) = some (.d (.bl (!inB r.1 s))) := t_in1 (t := .nm) (h := h1) (b := []) rfl (B.g.2 r hr).1 gs (by decide)
    show c0_lost_without (sq h [.str r.1, sq h (r.2.map (enc (.seq (.b h) .nm)))]) _ = _
    generalize inB r.1 s = bb at gi ⊢
    cases h <;> cases h1 <;> simp only [t_sq] at gi <;> cases bb <;> (simp only [star_eq, gTp_l, evl, evl2, evl3, evl4, evl5, evl6, evl7, evl8, evl9, evl10, evl11, evl12, prim, slotsE, eqE, t_sq, if_true, if_false, Bool.false_eq_true, nd0, nd1, toD_l, List.length_cons, List.length_nil, Nat.reduceAdd, limE, Bool.false_bne, Bool.true_bne, Bool.not_true, Bool.not_false, c0_lost_without, gi] <;> first | done | rfl)
  have hc1 : compL c1_lost_without ((allB b).map (enc .nm)) [.val (sk k (b.map (enc (tRow h)))), .val (sq h1 (s.map (enc .nm))), .val (.tup ((gwB b (restB b s)).map (enc .nm))), .no, .no] [] = .ok ((lostB b s).map (enc .nm)) [.val (sk k (b.map (enc (tRow h)))), .val (sq h1 (s.map (enc .nm))), .val (.tup ((gwB b (restB b s)).map (enc .nm))), .no, .no] :=
    cp_fid (t := .nm) (q := fun y => !inB y (gwB b (restB b s))) (allB b) (Nat.le_trans ga.1 (by decide)) fun x hx => by
      have gi : gIn true (.str x) (.tup ((gwB b (restB b s)).map (enc .nm))) = some (.d (.bl (!inB x (gwB b (restB b s))))) := t_in1 (t := .nm) (h := true) (b := []) rfl (ga.2 x hx) gk (by decide)
      show c1_lost_without (.str x) _ = _
      generalize inB x (gwB b (restB b s)) = bb at gi ⊢
      cases bb <;> (simp only [star_eq, gTp_l, evl, evl2, evl3, evl4, evl5, evl6, evl7, evl8, evl9, evl10, evl11, evl12, prim, slotsE, eqE, t_sq, if_true, if_false, Bool.false_eq_true, nd0, nd1, toD_l, List.length_cons, List.length_nil, Nat.reduceAdd, limE, Bool.false_bne, Bool.true_bne, Bool.not_true, Bool.not_false, c1_lost_without, gi] <;> first | done | rfl)
  have it : ∀ ds : List D, (D.tup ds).items = some ds := fun _ => rfl
  have itb : (sk k (b.map (enc (tRow h)))).items = some (b.map (enc (tRow h))) := t_items (t := tRow h) (k := k) b
  have gt : ∀ ds : List D, gTuple (.lst ds) = some (.d (.tup ds)) := fun _ => rfl
  show DR.of (f_lost_without [.val (sk k (b.map (enc (tRow h)))), .val (sq h1 (s.map (enc .nm))), .no, .no, .no]) [.val (sk k (b.map (enc (tRow h)))), .val (sq h1 (s.map (enc .nm)))] = _
  rw [nE_lost_without]
  cases h1 <;> simp only [t_sq] at e0 hc0 hc1 <;> simp only [star_eq, gTp_l, evl, evl2, evl3, evl4, evl5, evl6, evl7, evl8, evl9, evl10, evl11, evl12, prim, slotsE, eqE, t_sq, if_true, if_false, Bool.false_eq_true, nd0, nd1, toD_l, List.length_cons, List.length_nil, Nat.reduceAdd, limE, Bool.false_bne, Bool.true_bne, Bool.not_true, Bool.not_false, e0, itb, hc0, gt, e2, e1, it, hc1]
end
/-! all sets -/
theorem pwF_end {α : Type} : ∀ (l : List α) (acc : List (List α)) (x : α), pwF acc (l ++ [x]) = pwF acc l ++ (pwF acc l).map (· ++ [x])
  | [], acc, x => rfl
  | y :: l, acc, x => by
    rw [List.cons_append]
    show pwF (acc ++ acc.map (· ++ [y])) (l ++ [x]) = _
    rw [pwF_end l]; rfl
theorem subs_ok {ts : List (List Nat)} (Tg : TagOk ts) : den__law_subsets [.val (.lst (ts.map (enc .nm)))] = .ok (.o (.l ((isort (ltT tSt) (setsOf ts)).map (enc tSt)))) [.no] := by
  have ht := Tg.few
  have sl : ∀ pre post, ts = pre ++ post → (setsOf pre).length ≤ 32 ∧ ∀ s ∈ setsOf pre, Good tSt [9] s := fun pre post ex => by
    have hp : pre.length ≤ 5 := by
      have := congrArg List.length ex
      rw [List.length_append] at this
      omega
    refine ⟨?_, fun s hs => ?_⟩
    · rw [setsOf_len]
      have : ∀ n ≤ 5, 2 ^ n ≤ 32 := by decide
      exact this _ hp
    · have hsub := mem_setsOf.mp hs
      exact ⟨Nat.le_trans hsub.length_le (show pre.length ≤ 9 by omega), fun x hx => Tg.gn x (by rw [ex]; exact List.mem_append_left _ (hsub.subset hx))⟩
  obtain ⟨τ', e, s2, rfl, f2⟩ := forL_pre (g := enc .nm) (body := b0__law_subsets) (fun pre τ => ∃ s2 : Sl, τ = [.val (.lst (ts.map (enc .nm))), .own (.l ((setsOf pre).map (enc tSt))), s2, .no] ∧ s2.free = true) ts (τ := [.val (.lst (ts.map (enc .nm))), .own (.l [.tup []]), .no, .no]) ⟨.no, rfl, rfl⟩ fun pre x post τ ex hI => by
    obtain ⟨s2, rfl, f2⟩ := hI
    obtain ⟨hl, hg⟩ := sl pre (x :: post) ex
    have hc : compL c0__law_subsets ((setsOf pre).map (enc tSt)) [.val (.lst (ts.map (enc .nm))), .val (.lst ((setsOf pre).map (enc tSt))), .val (.str x), .no] [] = .ok (((setsOf pre).map (· ++ [x])).map (enc tSt)) [.val (.lst (ts.map (enc .nm))), .val (.lst ((setsOf pre).map (enc tSt))), .val (.str x), .no] :=
      cp_map (t := tSt) (setsOf pre) (lim_big (by omega)) fun s hs => by
        have hsl : s.length ≤ 9 := (hg s hs).1
        have ga : gAdd (.tup (s.map (enc .nm))) (.tup [.str x]) = some (.d (.tup ((s ++ [x]).map (enc .nm)))) := by
          rw [List.map_append]
          exact gAddT (by rw [List.length_map]; simp; omega)
        show c0__law_subsets (.tup (s.map (enc .nm))) _ = _
        simp only [star_eq, gTp_l, evl, evl2, evl3, evl4, evl5, evl6, evl7, evl8, evl9, evl10, evl11, evl12, prim, slotsE, eqE, t_sq, if_true, if_false, Bool.false_eq_true, nd0, nd1, toD_l, List.length_cons, List.length_nil, Nat.reduceAdd, limE, Bool.false_bne, Bool.true_bne, Bool.not_true, Bool.not_false, c0__law_subsets, ga]
        rfl
    have ga : gAdd (.lst ((setsOf pre).map (enc tSt))) (.lst (((setsOf pre).map (· ++ [x])).map (enc tSt))) = some (.o (.l ((setsOf (pre ++ [x])).map (enc tSt)))) := by
      unfold setsOf
      rw [pwF_end, List.map_append]
      exact gAddL (by rw [List.length_map, List.length_map, List.length_map]; unfold setsOf at hl; omega)
    have it : (D.lst ((setsOf pre).map (enc tSt))).items = some ((setsOf pre).map (enc tSt)) := rfl
    refine ⟨_, ?_, .val (.str x), rfl, rfl⟩
    show b0__law_subsets (.str x) _ = _
    simp only [star_eq, gTp_l, evl, evl2, evl3, evl4, evl5, evl6, evl7, evl8, evl9, evl10, evl11, evl12, prim, slotsE, eqE, t_sq, if_true, if_false, Bool.false_eq_true, nd0, nd1, toD_l, List.length_cons, List.length_nil, Nat.reduceAdd, limE, Bool.false_bne, Bool.true_bne, Bool.not_true, Bool.not_false, b0__law_subsets, f2, it, hc, ga]
  have so1 : gSorted (.lst (ts.map (enc .nm))) = some (.o (.l (ts.map (enc .nm)))) := by
    have := t_sorted (t := .nm) (h := false) (b := [9]) (l := ts) rfl ⟨show ts.length ≤ 9 by omega, Tg.gn⟩ rfl (by decide) (by decide)
    have e : isort (ltT .nm) ts = ts := isort_id Tg.up
    rw [e] at this
    exact this
  obtain ⟨hl, hg⟩ := sl ts [] (by simp)
  have so : gSorted (.lst ((setsOf ts).map (enc tSt))) = some (.o (.l ((isort (ltT tSt) (setsOf ts)).map (enc tSt)))) := t_sorted (t := tSt) (h := false) (b := [32, 9]) rfl ⟨hl, hg⟩ rfl (by decide) (by decide)
  have it : (D.lst (ts.map (enc .nm))).items = some (ts.map (enc .nm)) := rfl
  show DR.of (f__law_subsets [.val (.lst (ts.map (enc .nm))), .no, .no, .no]) [.val (.lst (ts.map (enc .nm)))] = _
  rw [nE__law_subsets]
  simp only [star_eq, gTp_l, evl, evl2, evl3, evl4, evl5, evl6, evl7, evl8, evl9, evl10, evl11, evl12, prim, slotsE, eqE, t_sq, if_true, if_false, Bool.false_eq_true, nd0, nd1, toD_l, List.length_cons, List.length_nil, Nat.reduceAdd, limE, Bool.false_bne, Bool.true_bne, Bool.not_true, Bool.not_false, so1, it, e, so]
end U
end

section
set_option Elab.async false
set_option linter.all false
set_option maxRecDepth 100000
set_option maxHeartbeats 1000000
namespace U
open PySem PySem.Spec PyProof.Rows L2
theorem off_bk {ts : List (List Nat)} {b : BkV} (Tg : TagOk ts) (K : BookOk ts b) (s : List (List Nat)) : BkOk (.b true) true (offB b s) := by
  refine BookOk.bk (ts := ts) Tg ⟨?_, fun r hr => ?_, fun r hr => ?_⟩ _ _
  · have := off_nms b s
    unfold nmsB at this
    rw [this, K.nms]
  · unfold offB at hr
    obtain ⟨r0, h0, rfl⟩ := List.mem_map.mp hr
    show (if !inB r0.1 s then r0.2 else []).length ≤ 4
    have := K.few r0 h0
    split
    · exact this
    · simp
  · unfold offB at hr
    obtain ⟨r0, h0, rfl⟩ := List.mem_map.mp hr
    intro z hz
    have hz : z ∈ (if !inB r0.1 s then r0.2 else []) := hz
    split at hz
    · exact K.set r0 h0 z hz
    · cases hz
theorem ord_first {b : BkV} {os : List (List (List Nat))} (h : ∀ o, o ∈ os ↔ Order b o) : ∃ o l, os = o :: l ∧ Order b o := by
  cases os with
  | nil => exact absurd ((h _).mpr rw_order) (by simp)
  | cons o l => exact ⟨o, l, rfl, (h o).mp (List.mem_cons_self ..)⟩
theorem ix0 (d : D) (ds : List D) : gIx (.lst (d :: ds)) (.int 0) = some (.d d) := by
  show (atI (d :: ds) 0).map PR.d = _
  have := at_nat (xs := d :: ds) (i := 0) (by simp)
  have e : atI (d :: ds) 0 = some d := this
  rw [e]; rfl
theorem two_ok {x : D} (h : okS 10 x = true) : okS 11 (.lst [x, x]) = true := by
  refine okS_lst (by simp) fun y hy => ?_
  simp only [List.mem_cons, List.not_mem_nil, or_false, or_self] at hy
  subst hy
  exact h
/-- one lot -/
theorem lot1_ok {ts : List (List Nat)} {b : BkV} {o : List (List Nat)} {os : List (List (List Nat))} {u : List D} {v1 s4 s5 s6 : Sl} {lot : List (List Nat)} (Tg : TagOk ts) (K : BookOk ts b) (O : Order b o) (hl : lot.Sublist ts) (f4 : s4.free = true) (f5 : s5.free = true) (f6 : s6.free = true) : ∃ t4 t6 : Sl, t4.free = true ∧ t6.free = true ∧
    b0__law_right (.tup (lot.map (enc .nm))) [.own (.l u), v1, .val (.tup (b.map (enc (tRow true)))), .val (.lst (.tup (o.map (enc .nm)) :: os.map (enc tSt))), s4, s5, s6, .no, .no] = .nx [.own (.l u), v1, .val (.tup (b.map (enc (tRow true)))), .val (.lst (.tup (o.map (enc .nm)) :: os.map (enc tSt))), t4, .val (.tup (lot.map (enc .nm))), t6, .no, .no] := by
  have B := K.bk Tg
  have bl : b.length = ts.length := by rw [← K.nms, List.length_map]
  have ht := Tg.few
  have hm : ∀ x ∈ lot, x ∈ nmsB b := fun x hx => by show x ∈ b.map _; rw [K.nms]; exact hl.subset hx
  have gl : ∀ h, Good (.seq (.b h) .nm) [9] lot := fun h => ⟨Nat.le_trans hl.length_le (show ts.length ≤ 9 by omega), fun x hx => Tg.gn x (hl.subset hx)⟩
  have hc2 : compL c2__law_right (b.map (enc (tRow true))) [.own (.l u), v1, .val (.tup (b.map (enc (tRow true)))), .val (.lst (.tup (o.map (enc .nm)) :: os.map (enc tSt))), s4, .val (.tup (lot.map (enc .nm))), s6, .no, .no] [] = .ok ((offB b lot).map (enc (tRow true))) [.own (.l u), v1, .val (.tup (b.map (enc (tRow true)))), .val (.lst (.tup (o.map (enc .nm)) :: os.map (enc tSt))), s4, .val (.tup (lot.map (enc .nm))), s6, .no, .no] := by
    unfold offB
    refine cp_map (t := tRow true) b (lim_big (by omega)) fun r hr => ?_
    have gi : gIn true (.str r.1) (.tup (lot.map (enc .nm))) = some (.d (.bl (!inB r.1 lot))) := t_in1 (t := .nm) (h := true) (b := []) rfl ((B (.b true) true).g.2 r hr).1 (gl true) (by decide)
    show c2__law_right (.tup [.str r.1, .tup (r.2.map (enc tSt))]) _ = _
    generalize inB r.1 lot = bb at gi ⊢
    cases bb <;> (simp only [star_eq, gTp_l, evl, evl2, evl3, evl4, evl5, evl6, evl7, evl8, evl9, evl10, evl11, evl12, prim, slotsE, eqE, t_sq, if_true, if_false, Bool.false_eq_true, nd0, nd1, toD_l, List.length_cons, List.length_nil, Nat.reduceAdd, limE, Bool.false_bne, Bool.true_bne, Bool.not_true, Bool.not_false, c2__law_right, gi] <;> first | done | rfl)
  obtain ⟨os2, hos2, _, e1⟩ := orders_ok (off_bk Tg K lot) (by unfold offB; rw [List.length_map]; omega)
  obtain ⟨o2, l2, rfl, O2⟩ := ord_first hos2
  have e1 : den__law_orders [.val (.tup ((offB b lot).map (enc (tRow true))))] = .ok (.o (.l (.tup (o2.map (enc .nm)) :: l2.map (enc tSt)))) [.no] := e1
  have rg := row_good (off_bk Tg K lot) O2.row
  have og := row_good (B (.b true) true) O.row
  have so : gSorted (.tup (o.map (enc .nm))) = some (.o (.l ((allB b).map (enc .nm)))) := by
    have := t_sorted (t := .nm) (h := true) (b := [9]) rfl og rfl (by decide) (by decide)
    have e : isort (ltT .nm) o = allB b := O.set
    rw [e] at this
    exact this
  have ga := all_good (hb := .b true) (B (.b true) true)
  have hc3 : ∀ s4 : Sl, compL c3__law_right ((allB b).map (enc .nm)) [.own (.l u), v1, .val (.tup (b.map (enc (tRow true)))), .val (.lst (.tup (o.map (enc .nm)) :: os.map (enc tSt))), s4, .val (.tup (lot.map (enc .nm))), .val (.tup (o2.map (enc .nm))), .no, .no] [] = .ok ((lostB b lot).map (enc .nm)) [.own (.l u), v1, .val (.tup (b.map (enc (tRow true)))), .val (.lst (.tup (o.map (enc .nm)) :: os.map (enc tSt))), s4, .val (.tup (lot.map (enc .nm))), .val (.tup (o2.map (enc .nm))), .no, .no] := fun s4 =>
    cp_fid (t := .nm) (q := fun y => !inB y (gwB b (restB b lot))) (allB b) (Nat.le_trans ga.1 (by decide)) fun x hx => by
      have gi : gIn true (.str x) (.tup (o2.map (enc .nm))) = some (.d (.bl (!inB x o2))) := t_in1 (t := .nm) (h := true) (b := []) rfl (ga.2 x hx) rg (by decide)
      have e : inB x o2 = inB x (gwB b (restB b lot)) := by
        rw [Bool.eq_iff_iff, inB_iff, inB_iff]
        exact off_order O2
      rw [e] at gi
      show c3__law_right (.str x) _ = _
      generalize inB x (gwB b (restB b lot)) = bb at gi ⊢
      cases bb <;> (simp only [star_eq, gTp_l, evl, evl2, evl3, evl4, evl5, evl6, evl7, evl8, evl9, evl10, evl11, evl12, prim, slotsE, eqE, t_sq, if_true, if_false, Bool.false_eq_true, nd0, nd1, toD_l, List.length_cons, List.length_nil, Nat.reduceAdd, limE, Bool.false_bne, Bool.true_bne, Bool.not_true, Bool.not_false, c3__law_right, gi] <;> first | done | rfl)
  have e2 : den_lost_without [.val (.tup (b.map (enc (tRow true)))), .val (.tup (lot.map (enc .nm)))] = _ := lost_ok (k := .b true) (h := true) (h1 := true) (B _ _) (gl true) hm
  have e3 : den__law_lists 12 [.val (.tup (b.map (enc (tRow true))))] = .ok (.o (.l (b.map (enc (tRow false))))) [.no] := w_lists (g := true) (tRow true) rfl (B (.b true) true).g (by simp only [Ty.dp]; decide) (by decide) HEq.rfl
  have e4 : den_lost_without [.val (.lst (b.map (enc (tRow false)))), .val (.lst (lot.map (enc .nm)))] = _ := lost_ok (k := .b false) (h := false) (h1 := false) (B _ _) (gl false) hm
  have lg : Good (.seq (.b true) .nm) [9] (lostB b lot) := gd_filter (h := .b true) ga
  have sa := same12 (two_ok (x := .tup ((lostB b lot).map (enc .nm))) (enc_okS (.seq (.b true) .nm) (n := 10) rfl lg (by simp only [Ty.dp]; decide) (by decide)))
  have it : ∀ ds : List D, (D.tup ds).items = some ds := fun _ => rfl
  have itl : ∀ ds : List D, (D.lst ds).items = some ds := fun _ => rfl
  have gt : ∀ ds : List D, gTuple (.lst ds) = some (.d (.tup ds)) := fun _ => rfl
  have gls : gList (.tup (lot.map (enc .nm))) = some (.o (.l (lot.map (enc .nm)))) := rfl
  refine ⟨.val (.tup ((lostB b lot).map (enc .nm))), .val (.tup (o2.map (enc .nm))), rfl, rfl, ?_⟩
  have i1 := ix0 (.tup (o.map (enc .nm))) (os.map (enc tSt))
  have i2 := ix0 (.tup (o2.map (enc .nm))) (l2.map (enc tSt))
  generalize (D.tup (o.map (enc .nm)) :: os.map (enc tSt)) = ol at *
  generalize (D.tup (o2.map (enc .nm)) :: l2.map (enc tSt)) = ol2 at *
  simp only [star_eq, gTp_l, evl, evl2, evl3, evl4, evl5, evl6, evl7, evl8, evl9, evl10, evl11, evl12, prim, slotsE, eqE, t_sq, if_true, if_false, Bool.false_eq_true, nd0, nd1, toD_l, List.length_cons, List.length_nil, Nat.reduceAdd, limE, Bool.false_bne, Bool.true_bne, Bool.not_true, Bool.not_false, b0__law_right, f4, f5, f6, it, hc2, gt, e1, i2, i1, so, itl, hc3, e2, e3, gls, e4, sa]
/-- who is last in some order -/
theorem last_eq {b : BkV} {os : List (List (List Nat))} (h : ∀ o, o ∈ os ↔ Order b o) : sof' ltN ((os.filter fun o => !decide (o = [])).map fun o => o.getLastD []) = lastB b := by
  refine up_one oN (sof_up oN _) ((gw_up nm_self).filter _) fun x => ?_
  rw [sof_mem, List.mem_map]
  unfold lastB
  rw [List.mem_filter]
  constructor
  · rintro ⟨o, ho, rfl⟩
    obtain ⟨h1, h2⟩ := List.mem_filter.mp ho
    have O := (h o).mp h1
    rcases List.eq_nil_or_concat o with rfl | ⟨p, x, rfl⟩
    · simp at h2
    · rw [List.concat_eq_append] at O ⊢
      have e : (p ++ [x]).getLastD [] = x := by simp
      rw [e]
      have hx : x ∈ allB b := O.mem.mp (List.mem_append_right _ (List.mem_singleton.mpr rfl))
      exact ⟨hx, decide_eq_true ((last_iff hx).mpr ⟨p, O⟩)⟩
  · rintro ⟨hx, h2⟩
    obtain ⟨p, O⟩ := (last_iff hx).mp (of_decide_eq_true h2)
    exact ⟨p ++ [x], List.mem_filter.mpr ⟨(h _).mpr O, by simp⟩, by simp⟩
theorem turn_ok {c : Nat} {u : List D} {d : D} {s1 s2 s3 s4 s5 s6 : Sl} (hu : Urn c u) (hc : c + 9000 < 2 ^ 60) (f1 : s1.free = true) (f2 : s2.free = true) (f3 : s3.free = true) (f4 : s4.free = true) (f5 : s5.free = true) (f6 : s6.free = true) : ∃ (u' : List D) (t2 t3 t4 t5 t6 : Sl), Urn (c + 1500) u' ∧ t2.free = true ∧ t3.free = true ∧ t4.free = true ∧ t5.free = true ∧ t6.free = true ∧
    b1__law_right d [.own (.l u), s1, s2, s3, s4, s5, s6, .no, .no] = .nx [.own (.l u'), .val d, t2, t3, t4, t5, t6, .no, .no] := by
  obtain ⟨u1, ts, b, hu1, Tg, K, e1⟩ := book_ok hu (by omega)
  have B := K.bk Tg
  have ht := Tg.few
  have bl : b.length = ts.length := by rw [← K.nms, List.length_map]
  obtain ⟨os, hos, osl, e2⟩ := orders_ok (B (.b true) true) (by omega)
  have og : ∀ o ∈ os, Good tSt [9] o := fun o ho => row_good (B (.b true) true) ((hos o).mp ho).row
  have hc0 : ∀ (s4 s5 s6 : Sl), compL c0__law_right (os.map (enc tSt)) [.own (.l u1), .val d, .val (.tup (b.map (enc (tRow true)))), .val (.lst (os.map (enc tSt))), s4, s5, s6, .no, .no] [] = .ok (((os.filter fun o => !decide (o = [])).map fun o => o.getLastD []).map (enc .nm)) [.own (.l u1), .val d, .val (.tup (b.map (enc (tRow true)))), .val (.lst (os.map (enc tSt))), s4, s5, s6, .no, .no] := fun s4 s5 s6 =>
    cp_filt (t := .nm) (g := enc tSt) os (lim_big (by omega)) fun o ho => by
      have ge : gEq true (.tup (o.map (enc .nm))) (.tup []) = some (.d (.bl (!decide (o = [])))) := t_eq1 (t := tSt) (b := [9]) (c := [9]) (y := []) rfl (og o ho) ⟨Nat.zero_le _, fun _ h => nomatch h⟩ (by decide)
      show c0__law_right (.tup (o.map (enc .nm))) _ = _
      rcases List.eq_nil_or_concat o with rfl | ⟨p, x, rfl⟩
      · have ge : gEq true (.tup []) (.tup []) = some (.d (.bl false)) := rfl
        simp only [star_eq, gTp_l, evl, evl2, evl3, evl4, evl5, evl6, evl7, evl8, evl9, evl10, evl11, evl12, prim, slotsE, eqE, t_sq, if_true, if_false, Bool.false_eq_true, nd0, nd1, toD_l, List.length_cons, List.length_nil, Nat.reduceAdd, limE, Bool.false_bne, Bool.true_bne, Bool.not_true, Bool.not_false, c0__law_right, List.map_nil, ge]
        rfl
      · rw [List.concat_eq_append] at ge ⊢
        have e0 : decide (p ++ [x] = []) = false := by simp
        rw [e0] at ge ⊢
        have ix : gIx (.tup ((p ++ [x]).map (enc .nm))) (.int (-1)) = some (.d (.str x)) := by
          show (atI ((p ++ [x]).map (enc .nm)) (-1)).map PR.d = _
          rw [List.map_append]
          have := at_last (p.map (enc .nm)) (D.str x)
          have e : atI (p.map (enc .nm) ++ List.map (enc .nm) [x]) (-1) = some (.str x) := this
          rw [e]; rfl
        have el : (p ++ [x]).getLastD [] = x := by simp
        rw [el]
        generalize (p ++ [x]).map (enc .nm) = pm at ge ix ⊢
        simp only [star_eq, gTp_l, evl, evl2, evl3, evl4, evl5, evl6, evl7, evl8, evl9, evl10, evl11, evl12, prim, slotsE, eqE, t_sq, if_true, if_false, Bool.false_eq_true, nd0, nd1, toD_l, List.length_cons, List.length_nil, Nat.reduceAdd, limE, Bool.false_bne, Bool.true_bne, Bool.not_true, Bool.not_false, c0__law_right, ge, ix, Int.reduceNeg]
        rfl
  have lm : ∀ x ∈ (os.filter fun o => !decide (o = [])).map fun o => o.getLastD [], x ∈ ts := fun x hx => by
    have : x ∈ sof' ltN ((os.filter fun o => !decide (o = [])).map fun o => o.getLastD []) := sof_mem.mpr hx
    rw [last_eq hos] at this
    have := gw_sub nm_self x (List.mem_filter.mp this).1
    rwa [show nmsB b = ts from K.nms] at this
  have ll : ((os.filter fun o => !decide (o = [])).map fun o => o.getLastD []).length ≤ 330 := by
    rw [List.length_map]
    exact Nat.le_trans (List.length_filter_le ..) osl
  have ss : gSS (.lst (((os.filter fun o => !decide (o = [])).map fun o => o.getLastD []).map (enc .nm))) = some (.o (.l ((lastB b).map (enc .nm)))) := by
    have h0 := t_set (t := .nm) (h := false) (b := [330]) (l := (os.filter fun o => !decide (o = [])).map fun o => o.getLastD []) rfl ⟨ll, fun x hx => Tg.gn x (lm x hx)⟩ rfl rfl (by decide) (by decide) (Nat.lt_of_le_of_lt (nodup_sub (dd_nodup _) fun x hx => lm x (dd_mem.mp hx)) (by omega))
    have e := last_eq hos
    have h1 : sof' (ltT .nm) ((os.filter fun o => !decide (o = [])).map fun o => o.getLastD []) = lastB b := e
    rw [h1] at h0
    exact h0
  have e3 : den_last_ones [.val (.tup (b.map (enc (tRow true))))] = _ := last_ok (k := .b true) (h := true) (B _ _)
  have e4 : den__law_lists 12 [.val (.tup (b.map (enc (tRow true))))] = .ok (.o (.l (b.map (enc (tRow false))))) [.no] := w_lists (g := true) (tRow true) rfl (B (.b true) true).g (by simp only [Ty.dp]; decide) (by decide) HEq.rfl
  have e5 : den_last_ones [.val (.lst (b.map (enc (tRow false))))] = _ := last_ok (k := .b false) (h := false) (B _ _)
  have lg : Good (.seq (.b true) .nm) [9] (lastB b) := gd_filter (h := .b true) (all_good (hb := .b true) (B (.b true) true))
  have sa := same12 (two_ok (x := .tup ((lastB b).map (enc .nm))) (enc_okS (.seq (.b true) .nm) (n := 10) rfl lg (by simp only [Ty.dp]; decide) (by decide)))
  have hc1 : ∀ (s4 s5 s6 : Sl) (s3 : Sl), compL c1__law_right (b.map (enc (tRow true))) [.own (.l u1), .val d, .val (.tup (b.map (enc (tRow true)))), s3, s4, s5, s6, .no, .no] [] = .ok (ts.map (enc .nm)) [.own (.l u1), .val d, .val (.tup (b.map (enc (tRow true)))), s3, s4, s5, s6, .no, .no] := fun s4 s5 s6 s3 => by
    rw [← K.nms]
    refine cp_map (t := .nm) (g := enc (tRow true)) b (lim_big (by omega)) fun r hr => ?_
    show c1__law_right (.tup [.str r.1, .tup (r.2.map (enc tSt))]) _ = _
    simp only [star_eq, gTp_l, evl, evl2, evl3, evl4, evl5, evl6, evl7, evl8, evl9, evl10, evl11, evl12, prim, slotsE, eqE, t_sq, if_true, if_false, Bool.false_eq_true, nd0, nd1, toD_l, List.length_cons, List.length_nil, Nat.reduceAdd, limE, Bool.false_bne, Bool.true_bne, Bool.not_true, Bool.not_false, c1__law_right]
    rfl
  have e6 := subs_ok Tg
  obtain ⟨o, l, rfl, O⟩ := ord_first hos
  obtain ⟨τ', e7, t4, t5, t6, rfl, g4, g5, g6⟩ := forL_pre (g := enc tSt) (body := b0__law_right) (fun _ τ => ∃ t4 t5 t6 : Sl, τ = [.own (.l u1), .val d, .val (.tup (b.map (enc (tRow true)))), .val (.lst (.tup (o.map (enc .nm)) :: l.map (enc tSt))), t4, t5, t6, .no, .no] ∧ t4.free = true ∧ t5.free = true ∧ t6.free = true) (isort (ltT tSt) (setsOf ts)) (τ := [.own (.l u1), .val d, .val (.tup (b.map (enc (tRow true)))), .val (.lst (.tup (o.map (enc .nm)) :: l.map (enc tSt))), .val (.tup ((lastB b).map (enc .nm))), s5, s6, .no, .no]) ⟨_, s5, s6, rfl, rfl, f5, f6⟩ fun pre lot post τ ex hI => by
    obtain ⟨t4, t5, t6, rfl, g4, g5, g6⟩ := hI
    have hl : lot.Sublist ts := mem_setsOf.mp ((isort_perm _).mem_iff.mp (by rw [ex]; simp))
    obtain ⟨r4, r6, k4, k6, e⟩ := lot1_ok (u := u1) (v1 := .val d) (os := l) Tg K O hl g4 g5 g6
    exact ⟨_, e, r4, _, r6, rfl, k4, rfl, k6⟩
  refine ⟨u1, .val (.tup (b.map (enc (tRow true)))), .val (.lst (.tup (o.map (enc .nm)) :: l.map (enc tSt))), t4, t5, t6, hu1.mono (by omega), rfl, rfl, g4, g5, g6, ?_⟩
  have it : ∀ ds : List D, (D.tup ds).items = some ds := fun _ => rfl
  have itl : ∀ ds : List D, (D.lst ds).items = some ds := fun _ => rfl
  have gt : ∀ ds : List D, gTuple (.lst ds) = some (.d (.tup ds)) := fun _ => rfl
  have em : (o :: l).map (enc tSt) = .tup (o.map (enc .nm)) :: l.map (enc tSt) := rfl
  rw [em] at e2 hc0
  generalize (D.tup (o.map (enc .nm)) :: l.map (enc tSt)) = ol at *
  simp only [star_eq, gTp_l, evl, evl2, evl3, evl4, evl5, evl6, evl7, evl8, evl9, evl10, evl11, evl12, prim, slotsE, eqE, t_sq, if_true, if_false, Bool.false_eq_true, nd0, nd1, toD_l, List.length_cons, List.length_nil, Nat.reduceAdd, limE, Bool.false_bne, Bool.true_bne, Bool.not_true, Bool.not_false, b1__law_right, f1, f2, f3, f4, f5, f6, e1, e2, itl, hc0, ss, gt, e3, e4, e5, sa, it, hc1, e6, e7]
theorem right_ok {u : List D} (hu : Urn 0 u) : den__law_right [.own (.l u)] = .ok (.d (.bl true)) [.no] := by
  obtain ⟨τ', e, u', s1, s2, s3, s4, s5, s6, rfl, _⟩ := forL_pre (g := fun (j : Nat) => D.int (j : Int)) (body := b1__law_right) (fun pre τ => ∃ (u' : List D) (s1 s2 s3 s4 s5 s6 : Sl), τ = [.own (.l u'), s1, s2, s3, s4, s5, s6, .no, .no] ∧ Urn (1500 * pre.length) u' ∧ s1.free = true ∧ s2.free = true ∧ s3.free = true ∧ s4.free = true ∧ s5.free = true ∧ s6.free = true) (List.range 8) (τ := [.own (.l u), .no, .no, .no, .no, .no, .no, .no, .no]) ⟨u, .no, .no, .no, .no, .no, .no, rfl, hu, rfl, rfl, rfl, rfl, rfl, rfl⟩ fun pre x post τ ex hI => by
    obtain ⟨u0, s1, s2, s3, s4, s5, s6, rfl, hu0, f1, f2, f3, f4, f5, f6⟩ := hI
    have hpl : pre.length + 1 ≤ 8 := by
      have := congrArg List.length ex
      rw [List.length_range, List.length_append, List.length_cons] at this
      omega
    obtain ⟨u1, t2, t3, t4, t5, t6, hu1, g2, g3, g4, g5, g6, e⟩ := turn_ok (d := .int (x : Int)) hu0 (by omega) f1 f2 f3 f4 f5 f6
    exact ⟨_, e, u1, .val (.int (x : Int)), t2, t3, t4, t5, t6, rfl, hu1.mono (by rw [List.length_append, List.length_singleton]; omega), rfl, g2, g3, g4, g5, g6⟩
  have s5' : ((8 : Int).natAbs < 2 ^ 62) = True := eq_true (by decide)
  have n5 : (8 : Int).toNat = 8 := rfl
  rw [← rng_eq] at e
  show DR.of (f__law_right [.own (.l u), .no, .no, .no, .no, .no, .no, .no, .no]) [.own (.l u)] = _
  rw [nE__law_right]
  simp only [star_eq, gTp_l, evl, evl2, evl3, evl4, evl5, evl6, evl7, evl8, evl9, evl10, evl11, evl12, prim, slotsE, eqE, t_sq, if_true, if_false, Bool.false_eq_true, nd0, nd1, toD_l, List.length_cons, List.length_nil, Nat.reduceAdd, limE, Bool.false_bne, Bool.true_bne, Bool.not_true, Bool.not_false, s5', n5, e]
end U
end

section
set_option Elab.async false
set_option linter.all false
set_option maxRecDepth 100000
namespace U
theorem hand_ok : den__law_by_hand_right [] = .ok (.d (.bl true)) [] := by kernel_rfl
end U
end

section
set_option Elab.async false
set_option linter.all false
set_option maxRecDepth 100000
set_option maxHeartbeats 0
namespace U
open PySem PySem.Spec PyProof.Rows L2
def mkD (x : Str) (i : Nat) : He.DefD := ⟨(x, none), x, x, defArgs (top i), defBody (top i), defScope (top i), [], []⟩
def mkI (x y : Str) (i : Nat) : He.DefD := ⟨(x, some "__init__"), "__init__", y, defArgs (initOf (top i)), defBody (initOf (top i)), defScope (initOf (top i)), [], []⟩
def fnL : List He.DefD := [mkD "set_of" 3, mkD "tupled" 4, mkD "units" 6, mkD "check_units" 7, mkD "table_of" 8, mkD "lets" 9, mkD "row_within" 10, mkD "greatest_within" 11, mkD "whole" 12, mkD "without" 14, mkD "last_ones" 16, mkD "lost_without" 17, mkD "_law_box" 19, mkD "_law_cells" 20, mkD "_law_mixed" 21, mkD "_law_take" 22, mkD "_law_same" 23, mkD "_law_lists" 24, mkD "_law_pick" 25, mkD "_law_come" 26, mkD "_law_orders" 27, mkD "_law_subsets" 28, mkD "_law_book" 29, mkD "_law_words" 30, mkD "_law_heard" 31, mkD "_law_by_hand_right" 32, mkD "_law_right" 33, mkD "law" 34, mkI "NoUnit" "NoUnit.__init__" 1]
def faL : List He.Fa := [.glo "set_of", .glo "tupled", .glo "units", .glo "check_units", .glo "table_of", .glo "lets", .glo "row_within", .glo "greatest_within", .glo "whole", .glo "without", .glo "last_ones", .glo "lost_without", .glo "_law_box", .glo "_law_cells", .glo "_law_mixed", .glo "_law_take", .glo "_law_same", .glo "_law_lists", .glo "_law_pick", .glo "_law_come", .glo "_law_orders", .glo "_law_subsets", .glo "_law_book", .glo "_law_words", .glo "_law_heard", .glo "_law_by_hand_right", .glo "_law_right", .glo "law", .free "len", .free "range", .free "zip", .free "enumerate", .free "isinstance", .free "int", .free "abs", .free "list", .free "tuple", .free "str", .free "bool", .free "dict", .free "set", .free "sorted", .free "sum", .free "min", .free "max", .free "any", .free "all", .free "ValueError", .free "LookupError", .glo "NoUnit"]
abbrev Rw : PySem.W.OpenRow := PySem.W.OpenLaw.row PySem.Challenge.rw_upbyany_k36_who_can_be_last_and_who_is_l
abbrev hkL : PySem.W.Hook := He.hookX 4 faL fnL [] [] (xAll1 xcs)
def obL (s : PySem.W.SharedT) : He.AlX := He.obsX 4 faL fnL [] [] (xAll1 xcs) (HandSHeadRun.getT s)
theorem obL_eq (s : PySem.W.SharedT) : obL s = hkL.obs s.abs := He.obsX_eq (HandSHeadRun.getT_eq s)
def loose0 : List Str := ["NoUnit", "set_of", "tupled", "units", "check_units", "table_of", "lets", "row_within", "greatest_within", "whole", "without", "last_ones", "lost_without", "_law_box", "_law_cells", "_law_mixed", "_law_take", "_law_same", "_law_lists", "_law_pick", "_law_come", "_law_orders", "_law_subsets", "_law_book", "_law_words", "_law_heard", "_law_by_hand_right", "_law_right"]
def looseL : List Str := loose0
theorem run_head (w : World) : HandSHeadRun.RunEq Rw (PySem.W.view Rw.prog [34]) hkL obL 4000 looseL w := by
  intro os
  kernel_rfl
theorem facts {P : Program} {w : World} {K : PySem.W.Frag} {h : Heap} {mg : Str → Option Value} {f : Addr} (X : K.In h) (G : h.Ns mainGlobals mg) (hfa : mg ("law" : Str) = some (.ref f)) (c0 : He.SaysX faL fnL [] [] (xAll1 xcs) w h K) :
    ∃ fd : FuncData, (∀ (s : Shared) (v : Value), BindsTo s fd ⟨[v], []⟩ [("_law_script", v)]) ∧ ∀ base : Heap, K.In base → base.Ns mainGlobals mg → FnOk P w K mg base (L2.CX P w) 20 f fd ["_law_script"] (spOf K (pxK K) 1 den_law) := by
  have c := c0.t.d
  have XK1 := He.ba c0.more
  have XK : xAll xcs K = true := XK1.1
  have B2 : B2s mg := ⟨He.free_ok X G (c.fact 47 (f := .free "ValueError") rfl), He.free_ok X G (c.fact 48 (f := .free "LookupError") rfl)⟩
  have XG : ∀ c ∈ xcs, mg (xName c) = some (.ref (xC K c)) := by
    intro x hx
    simp only [xcs, List.mem_cons, List.not_mem_nil, or_false] at hx
    rcases hx with rfl
    · exact He.glo_ok X G (c.fact 49 (f := .glo "NoUnit") rfl)
  have GC : GCs mg := trivial
  have B : Blt mg := ⟨He.free_ok X G (c.fact 28 (f := .free "len") rfl), He.free_ok X G (c.fact 29 (f := .free "range") rfl), He.free_ok X G (c.fact 30 (f := .free "zip") rfl), He.free_ok X G (c.fact 31 (f := .free "enumerate") rfl), He.free_ok X G (c.fact 32 (f := .free "isinstance") rfl), He.free_ok X G (c.fact 33 (f := .free "int") rfl), He.free_ok X G (c.fact 34 (f := .free "abs") rfl), He.free_ok X G (c.fact 35 (f := .free "list") rfl), He.free_ok X G (c.fact 36 (f := .free "tuple") rfl), He.free_ok X G (c.fact 37 (f := .free "str") rfl), He.free_ok X G (c.fact 38 (f := .free "bool") rfl), He.free_ok X G (c.fact 39 (f := .free "dict") rfl), He.free_ok X G (c.fact 40 (f := .free "set") rfl), He.free_ok X G (c.fact 41 (f := .free "sorted") rfl), He.free_ok X G (c.fact 42 (f := .free "sum") rfl), He.free_ok X G (c.fact 43 (f := .free "min") rfl), He.free_ok X G (c.fact 44 (f := .free "max") rfl), He.free_ok X G (c.fact 45 (f := .free "any") rfl), He.free_ok X G (c.fact 46 (f := .free "all") rfl)⟩
  have D_set_of : DefOk K mg "set_of" (top 3) ["some"] := by
    obtain ⟨fd, F⟩ := c.def_ 0 (d := mkD "set_of" 3) rfl
    exact ⟨_, fd, F, He.glo_ok X G (c.fact 0 (f := .glo "set_of") rfl), F.bindsN fun _ _ _ _ _ _ us hl => match us, hl with | [_], _ => rfl⟩
  have D_tupled : DefOk K mg "tupled" (top 4) ["value"] := by
    obtain ⟨fd, F⟩ := c.def_ 1 (d := mkD "tupled" 4) rfl
    exact ⟨_, fd, F, He.glo_ok X G (c.fact 1 (f := .glo "tupled") rfl), F.bindsN fun _ _ _ _ _ _ us hl => match us, hl with | [_], _ => rfl⟩
  have D_units : DefOk K mg "units" (top 6) ["book"] := by
    obtain ⟨fd, F⟩ := c.def_ 2 (d := mkD "units" 6) rfl
    exact ⟨_, fd, F, He.glo_ok X G (c.fact 2 (f := .glo "units") rfl), F.bindsN fun _ _ _ _ _ _ us hl => match us, hl with | [_], _ => rfl⟩
  have D_check_units : DefOk K mg "check_units" (top 7) ["book", "some"] := by
    obtain ⟨fd, F⟩ := c.def_ 3 (d := mkD "check_units" 7) rfl
    exact ⟨_, fd, F, He.glo_ok X G (c.fact 3 (f := .glo "check_units") rfl), F.bindsN fun _ _ _ _ _ _ us hl => match us, hl with | [_, _], _ => rfl⟩
  have D_table_of : DefOk K mg "table_of" (top 8) ["book"] := by
    obtain ⟨fd, F⟩ := c.def_ 4 (d := mkD "table_of" 8) rfl
    exact ⟨_, fd, F, He.glo_ok X G (c.fact 4 (f := .glo "table_of") rfl), F.bindsN fun _ _ _ _ _ _ us hl => match us, hl with | [_], _ => rfl⟩
  have D_lets : DefOk K mg "lets" (top 9) ["table", "up", "unit"] := by
    obtain ⟨fd, F⟩ := c.def_ 5 (d := mkD "lets" 9) rfl
    exact ⟨_, fd, F, He.glo_ok X G (c.fact 5 (f := .glo "lets") rfl), F.bindsN fun _ _ _ _ _ _ us hl => match us, hl with | [_, _, _], _ => rfl⟩
  have D_row_within : DefOk K mg "row_within" (top 10) ["book", "some"] := by
    obtain ⟨fd, F⟩ := c.def_ 6 (d := mkD "row_within" 10) rfl
    exact ⟨_, fd, F, He.glo_ok X G (c.fact 6 (f := .glo "row_within") rfl), F.bindsN fun _ _ _ _ _ _ us hl => match us, hl with | [_, _], _ => rfl⟩
  have D_greatest_within : DefOk K mg "greatest_within" (top 11) ["book", "some"] := by
    obtain ⟨fd, F⟩ := c.def_ 7 (d := mkD "greatest_within" 11) rfl
    exact ⟨_, fd, F, He.glo_ok X G (c.fact 7 (f := .glo "greatest_within") rfl), F.bindsN fun _ _ _ _ _ _ us hl => match us, hl with | [_, _], _ => rfl⟩
  have D_whole : DefOk K mg "whole" (top 12) ["book"] := by
    obtain ⟨fd, F⟩ := c.def_ 8 (d := mkD "whole" 12) rfl
    exact ⟨_, fd, F, He.glo_ok X G (c.fact 8 (f := .glo "whole") rfl), F.bindsN fun _ _ _ _ _ _ us hl => match us, hl with | [_], _ => rfl⟩
  have D_without : DefOk K mg "without" (top 14) ["some", "unit"] := by
    obtain ⟨fd, F⟩ := c.def_ 9 (d := mkD "without" 14) rfl
    exact ⟨_, fd, F, He.glo_ok X G (c.fact 9 (f := .glo "without") rfl), F.bindsN fun _ _ _ _ _ _ us hl => match us, hl with | [_, _], _ => rfl⟩
  have D_last_ones : DefOk K mg "last_ones" (top 16) ["book"] := by
    obtain ⟨fd, F⟩ := c.def_ 10 (d := mkD "last_ones" 16) rfl
    exact ⟨_, fd, F, He.glo_ok X G (c.fact 10 (f := .glo "last_ones") rfl), F.bindsN fun _ _ _ _ _ _ us hl => match us, hl with | [_], _ => rfl⟩
  have D_lost_without : DefOk K mg "lost_without" (top 17) ["book", "some"] := by
    obtain ⟨fd, F⟩ := c.def_ 11 (d := mkD "lost_without" 17) rfl
    exact ⟨_, fd, F, He.glo_ok X G (c.fact 11 (f := .glo "lost_without") rfl), F.bindsN fun _ _ _ _ _ _ us hl => match us, hl with | [_, _], _ => rfl⟩
  have D__law_box : DefOk K mg "_law_box" (top 19) ["_law_script", "_law_k"] := by
    obtain ⟨fd, F⟩ := c.def_ 12 (d := mkD "_law_box" 19) rfl
    exact ⟨_, fd, F, He.glo_ok X G (c.fact 12 (f := .glo "_law_box") rfl), F.bindsN fun _ _ _ _ _ _ us hl => match us, hl with | [_, _], _ => rfl⟩
  have D__law_cells : DefOk K mg "_law_cells" (top 20) ["_law_script", "_law_top"] := by
    obtain ⟨fd, F⟩ := c.def_ 13 (d := mkD "_law_cells" 20) rfl
    exact ⟨_, fd, F, He.glo_ok X G (c.fact 13 (f := .glo "_law_cells") rfl), F.bindsN fun _ _ _ _ _ _ us hl => match us, hl with | [_, _], _ => rfl⟩
  have D__law_mixed : DefOk K mg "_law_mixed" (top 21) ["_law_urn", "_law_pool"] := by
    obtain ⟨fd, F⟩ := c.def_ 14 (d := mkD "_law_mixed" 21) rfl
    exact ⟨_, fd, F, He.glo_ok X G (c.fact 14 (f := .glo "_law_mixed") rfl), F.bindsN fun _ _ _ _ _ _ us hl => match us, hl with | [_, _], _ => rfl⟩
  have D__law_take : DefOk K mg "_law_take" (top 22) ["_law_urn", "_law_low_so"] := by
    obtain ⟨fd, F⟩ := c.def_ 15 (d := mkD "_law_take" 22) rfl
    exact ⟨_, fd, F, He.glo_ok X G (c.fact 15 (f := .glo "_law_take") rfl), F.bindsN fun _ _ _ _ _ _ us hl => match us, hl with | [_, _], _ => rfl⟩
  have D__law_same : DefOk K mg "_law_same" (top 23) ["_law_got", "_law_goal"] := by
    obtain ⟨fd, F⟩ := c.def_ 16 (d := mkD "_law_same" 23) rfl
    exact ⟨_, fd, F, He.glo_ok X G (c.fact 16 (f := .glo "_law_same") rfl), F.bindsN fun _ _ _ _ _ _ us hl => match us, hl with | [_, _], _ => rfl⟩
  have D__law_lists : DefOk K mg "_law_lists" (top 24) ["_law_matter"] := by
    obtain ⟨fd, F⟩ := c.def_ 17 (d := mkD "_law_lists" 24) rfl
    exact ⟨_, fd, F, He.glo_ok X G (c.fact 17 (f := .glo "_law_lists") rfl), F.bindsN fun _ _ _ _ _ _ us hl => match us, hl with | [_], _ => rfl⟩
  have D__law_pick : DefOk K mg "_law_pick" (top 25) ["_law_urn", "_law_pool", "_law_size_so"] := by
    obtain ⟨fd, F⟩ := c.def_ 18 (d := mkD "_law_pick" 25) rfl
    exact ⟨_, fd, F, He.glo_ok X G (c.fact 18 (f := .glo "_law_pick") rfl), F.bindsN fun _ _ _ _ _ _ us hl => match us, hl with | [_, _, _], _ => rfl⟩
  have D__law_come : DefOk K mg "_law_come" (top 26) ["_law_tome", "_law_up"] := by
    obtain ⟨fd, F⟩ := c.def_ 19 (d := mkD "_law_come" 26) rfl
    exact ⟨_, fd, F, He.glo_ok X G (c.fact 19 (f := .glo "_law_come") rfl), F.bindsN fun _ _ _ _ _ _ us hl => match us, hl with | [_, _], _ => rfl⟩
  have D__law_orders : DefOk K mg "_law_orders" (top 27) ["_law_tome"] := by
    obtain ⟨fd, F⟩ := c.def_ 20 (d := mkD "_law_orders" 27) rfl
    exact ⟨_, fd, F, He.glo_ok X G (c.fact 20 (f := .glo "_law_orders") rfl), F.bindsN fun _ _ _ _ _ _ us hl => match us, hl with | [_], _ => rfl⟩
  have D__law_subsets : DefOk K mg "_law_subsets" (top 28) ["_law_names_so"] := by
    obtain ⟨fd, F⟩ := c.def_ 21 (d := mkD "_law_subsets" 28) rfl
    exact ⟨_, fd, F, He.glo_ok X G (c.fact 21 (f := .glo "_law_subsets") rfl), F.bindsN fun _ _ _ _ _ _ us hl => match us, hl with | [_], _ => rfl⟩
  have D__law_book : DefOk K mg "_law_book" (top 29) ["_law_urn", "_law_most"] := by
    obtain ⟨fd, F⟩ := c.def_ 22 (d := mkD "_law_book" 29) rfl
    exact ⟨_, fd, F, He.glo_ok X G (c.fact 22 (f := .glo "_law_book") rfl), F.bindsN fun _ _ _ _ _ _ us hl => match us, hl with | [_, _], _ => rfl⟩
  have D__law_words : DefOk K mg "_law_words" (top 30) ["_law_text"] := by
    obtain ⟨fd, F⟩ := c.def_ 23 (d := mkD "_law_words" 30) rfl
    exact ⟨_, fd, F, He.glo_ok X G (c.fact 23 (f := .glo "_law_words") rfl), F.bindsN fun _ _ _ _ _ _ us hl => match us, hl with | [_], _ => rfl⟩
  have D__law_heard : DefOk K mg "_law_heard" (top 31) ["_law_tome", "_law_lot_so"] := by
    obtain ⟨fd, F⟩ := c.def_ 24 (d := mkD "_law_heard" 31) rfl
    exact ⟨_, fd, F, He.glo_ok X G (c.fact 24 (f := .glo "_law_heard") rfl), F.bindsN fun _ _ _ _ _ _ us hl => match us, hl with | [_, _], _ => rfl⟩
  have D__law_by_hand_right : DefOk K mg "_law_by_hand_right" (top 32) [] := by
    obtain ⟨fd, F⟩ := c.def_ 25 (d := mkD "_law_by_hand_right" 32) rfl
    exact ⟨_, fd, F, He.glo_ok X G (c.fact 25 (f := .glo "_law_by_hand_right") rfl), F.bindsN fun _ _ _ _ _ _ us hl => match us, hl with | [], _ => rfl⟩
  have D__law_right : DefOk K mg "_law_right" (top 33) ["_law_urn"] := by
    obtain ⟨fd, F⟩ := c.def_ 26 (d := mkD "_law_right" 33) rfl
    exact ⟨_, fd, F, He.glo_ok X G (c.fact 26 (f := .glo "_law_right") rfl), F.bindsN fun _ _ _ _ _ _ us hl => match us, hl with | [_], _ => rfl⟩
  obtain ⟨fd, F⟩ := c.def_ 27 (d := mkD "law" 34) rfl
  have e := hfa.symm.trans (He.glo_ok X G (c.fact 27 (f := .glo "law") rfl))
  cases e
  have b := FunD.bindsA (ps := ["_law_script"]) F fun _ _ _ _ _ _ us hl => match us, hl with | [_], _ => rfl
  refine ⟨fd, fun s v => b s [v] rfl, fun base _ _ => ?_⟩
  have XR_0 : XRs P w K mg base 0 "name" := by
    obtain ⟨fdI, FI⟩ := c.def_ 28 (d := mkI "NoUnit" "NoUnit.__init__" 1) rfl
    have hx1 : x1B K 0 = true := List.all_eq_true.mp XK1.2 0 (by decide)
    obtain ⟨t1, t2, t3⟩ := x1_ok hx1
    have SI : FnScope ["self", "name"] ["self", "name"] (defScope (initOf (top 1))) := ⟨rfl, rfl, rfl, by decide +kernel, rfl, by decide +kernel, by decide +kernel⟩
    obtain ⟨BB, II, BO⟩ := xBase 0
    exact ⟨⟨XG 0 (by decide), t1, (x_fl XK (by decide) (by decide +kernel)).no, rfl, _, fdI, t2, t3, init1 BO FI SI (fun _ _ => rfl) (fun _ _ _ _ _ _ _ => pv 0) (fun _ _ _ _ _ _ _ => pv 1), FI.bindsN fun _ _ _ _ _ _ us hl => match us, hl with | [_, _], _ => rfl⟩⟩
  have C_set_of : Callee P w K mg base (pxK K) "set_of" (defArgs (top 3)) ["some"] 1 den_set_of := ok_set_of B B2 XK XG GC XR_0 D_set_of 
  have C_tupled : Callee P w K mg base (pxK K) "tupled" (defArgs (top 4)) ["value"] 12 (den_tupled 12) := ok_tupled B B2 XK XG GC XR_0 D_tupled  12
  have C_units : Callee P w K mg base (pxK K) "units" (defArgs (top 6)) ["book"] 1 den_units := ok_units B B2 XK XG GC XR_0 D_units 
  have C_check_units : Callee P w K mg base (pxK K) "check_units" (defArgs (top 7)) ["book", "some"] 3 den_check_units := ok_check_units B B2 XK XG GC XR_0 D_check_units C_units
  have C_table_of : Callee P w K mg base (pxK K) "table_of" (defArgs (top 8)) ["book"] 13 den_table_of := ok_table_of B B2 XK XG GC XR_0 D_table_of C_tupled
  have C_lets : Callee P w K mg base (pxK K) "lets" (defArgs (top 9)) ["table", "up", "unit"] 1 den_lets := ok_lets B B2 XK XG GC XR_0 D_lets 
  have C_row_within : Callee P w K mg base (pxK K) "row_within" (defArgs (top 10)) ["book", "some"] 14 den_row_within := ok_row_within B B2 XK XG GC XR_0 D_row_within C_table_of C_lets
  have C_greatest_within : Callee P w K mg base (pxK K) "greatest_within" (defArgs (top 11)) ["book", "some"] 15 den_greatest_within := ok_greatest_within B B2 XK XG GC XR_0 D_greatest_within C_check_units C_set_of C_row_within
  have C_whole : Callee P w K mg base (pxK K) "whole" (defArgs (top 12)) ["book"] 16 den_whole := ok_whole B B2 XK XG GC XR_0 D_whole C_greatest_within C_units
  have C_without : Callee P w K mg base (pxK K) "without" (defArgs (top 14)) ["some", "unit"] 1 den_without := ok_without B B2 XK XG GC XR_0 D_without 
  have C_last_ones : Callee P w K mg base (pxK K) "last_ones" (defArgs (top 16)) ["book"] 17 den_last_ones := ok_last_ones B B2 XK XG GC XR_0 D_last_ones C_whole C_greatest_within C_without
  have C_lost_without : Callee P w K mg base (pxK K) "lost_without" (defArgs (top 17)) ["book", "some"] 17 den_lost_without := ok_lost_without B B2 XK XG GC XR_0 D_lost_without C_check_units C_greatest_within C_whole
  have C__law_box : Callee P w K mg base (pxK K) "_law_box" (defArgs (top 19)) ["_law_script", "_law_k"] 1 den__law_box := ok__law_box B B2 XK XG GC XR_0 D__law_box 
  have C__law_cells : Callee P w K mg base (pxK K) "_law_cells" (defArgs (top 20)) ["_law_script", "_law_top"] 1 den__law_cells := ok__law_cells B B2 XK XG GC XR_0 D__law_cells 
  have C__law_take : Callee P w K mg base (pxK K) "_law_take" (defArgs (top 22)) ["_law_urn", "_law_low_so"] 1 den__law_take := ok__law_take B B2 XK XG GC XR_0 D__law_take 
  have C__law_mixed : Callee P w K mg base (pxK K) "_law_mixed" (defArgs (top 21)) ["_law_urn", "_law_pool"] 2 den__law_mixed := ok__law_mixed B B2 XK XG GC XR_0 D__law_mixed C__law_take
  have C__law_same : Callee P w K mg base (pxK K) "_law_same" (defArgs (top 23)) ["_law_got", "_law_goal"] 12 (den__law_same 12) := ok__law_same B B2 XK XG GC XR_0 D__law_same  12
  have C__law_lists : Callee P w K mg base (pxK K) "_law_lists" (defArgs (top 24)) ["_law_matter"] 12 (den__law_lists 12) := ok__law_lists B B2 XK XG GC XR_0 D__law_lists  12
  have C__law_pick : Callee P w K mg base (pxK K) "_law_pick" (defArgs (top 25)) ["_law_urn", "_law_pool", "_law_size_so"] 3 den__law_pick := ok__law_pick B B2 XK XG GC XR_0 D__law_pick C__law_mixed
  have C__law_come : Callee P w K mg base (pxK K) "_law_come" (defArgs (top 26)) ["_law_tome", "_law_up"] 1 den__law_come := ok__law_come B B2 XK XG GC XR_0 D__law_come 
  have C__law_orders : Callee P w K mg base (pxK K) "_law_orders" (defArgs (top 27)) ["_law_tome"] 2 den__law_orders := ok__law_orders B B2 XK XG GC XR_0 D__law_orders C__law_come
  have C__law_subsets : Callee P w K mg base (pxK K) "_law_subsets" (defArgs (top 28)) ["_law_names_so"] 1 den__law_subsets := ok__law_subsets B B2 XK XG GC XR_0 D__law_subsets 
  have C__law_book : Callee P w K mg base (pxK K) "_law_book" (defArgs (top 29)) ["_law_urn", "_law_most"] 4 den__law_book := ok__law_book B B2 XK XG GC XR_0 D__law_book C__law_pick C__law_take
  have C__law_words : Callee P w K mg base (pxK K) "_law_words" (defArgs (top 30)) ["_law_text"] 1 den__law_words := ok__law_words B B2 XK XG GC XR_0 D__law_words 
  have C__law_heard : Callee P w K mg base (pxK K) "_law_heard" (defArgs (top 31)) ["_law_tome", "_law_lot_so"] 18 den__law_heard := ok__law_heard B B2 XK XG GC XR_0 D__law_heard C_lost_without
  have C__law_by_hand_right : Callee P w K mg base (pxK K) "_law_by_hand_right" (defArgs (top 32)) [] 19 den__law_by_hand_right := ok__law_by_hand_right B B2 XK XG GC XR_0 D__law_by_hand_right C__law_words C_last_ones C_lost_without C__law_heard C__law_lists C__law_same
  have C__law_right : Callee P w K mg base (pxK K) "_law_right" (defArgs (top 33)) ["_law_urn"] 18 den__law_right := ok__law_right B B2 XK XG GC XR_0 D__law_right C__law_book C__law_orders C__law_same C_last_ones C__law_lists C__law_subsets C_lost_without
  exact ok_law B B2 XK XG GC XR_0 F C__law_by_hand_right C__law_cells C__law_right C__law_box
end U
end

section
set_option Elab.async false
set_option linter.all false
set_option maxRecDepth 100000
namespace U
open PySem PySem.Spec PyProof.Rows L2
theorem law_step {dR dB : List Sl → DR} {u : List D} {v0 : Sl} {c : D} {k : Nat} (hb : dB [.val c, .val (.int k)] = .ok (.o (.l u)) [.no, .no]) (hr : dR [.own (.l u)] = .ok (.d (.bl true)) [.no]) :
    turnC (gNm 2) (fun τ => .ok true τ) (frz (sCallF dR (sCall dB (sBCons (toB (frz (sVar 1))) (sBCons (toB (frz (sVar 2))) (sBNil)))))) [2] (.int k) [v0, .val c, .no] = .ok (some (.bl true)) [v0, .val c, .no] := by
  simp only [evl, evl2, evl3, evl4, prim, slotsE, if_true, nd0, hb, hr]
theorem law_true (ns : List Int) (hn : ns.length ≤ 63) : ∃ fs, den_law [.val (.scr ns)] = .ok (.d (.bl true)) fs := by
  obtain ⟨cs, h1, h3, ec⟩ := cells_ok ns hn
  have hl : gLen (.lst (cs.map D.int)) = some (.d (.int cs.length)) := by
    show some (PR.d (D.int ((cs.map D.int).length : Nat))) = _
    rw [List.length_map]
  have hc : compL c0_law (rng 0 cs.length) [.val (.scr ns), .val (.lst (cs.map D.int)), .no] [] = .ok ((List.range cs.length).map fun _ => D.bl true) [.val (.scr ns), .val (.lst (cs.map D.int)), .no] := by
    rw [rng_eq]
    refine compL_over (g := fun (j : Nat) => D.int (j : Int)) (List.range cs.length) (fun j hj => ?_) (by rw [List.length_range]; exact lim_big (by omega))
    obtain ⟨u, hu, eb⟩ := box_ok cs j (List.mem_range.mp hj) h3
    exact law_step eb (right_ok hu)
  have hall : gAll (.lst ((List.range cs.length).map fun _ => D.bl true)) = some (.d (.bl true)) := gAll_true fun d hd => by
    obtain ⟨_, _, e⟩ := List.mem_map.mp hd
    exact e.symm
  have hsm := small62 (n := cs.length) (by omega)
  have htn := toNatI cs.length
  have hh := hand_ok
  refine ⟨[.no], ?_⟩
  show DR.of (f_law [.val (.scr ns), .no, .no]) [.val (.scr ns)] = _
  rw [nE_law]
  simp only [evl, evl2, evl3, evl4, evl6, evl9, prim, slotsE, if_true, nd0, hh, Bool.not_true, Bool.false_eq_true, if_false, ec, List.length_map, hl, hsm, htn, hc, toD_l, hall]
end U
end

section
set_option Elab.async false
set_option maxRecDepth 100000
open PySem PySem.W PySem.Calls PyProof.Rows
set_option maxHeartbeats 0 in
theorem PySem.Challenge.cw_upbyany_k36_who_can_be_last_and_who_is_l_holds : PySem.Challenge.rw_upbyany_k36_who_can_be_last_and_who_is_l.Holds := by
  w_on; o_law
  refine HandSHeadRun.head_any (r := (PySem.W.OpenLaw.row PySem.Challenge.rw_upbyany_k36_who_can_be_last_and_who_is_l)) (q := view (PySem.W.OpenLaw.row PySem.Challenge.rw_upbyany_k36_who_can_be_last_and_who_is_l).prog [34]) (H := U.hkL) (ob := U.obL) (M := 4000) (loose := U.looseL) (d := HandSHeadRun.topDef (PySem.W.OpenLaw.row PySem.Challenge.rw_upbyany_k36_who_can_be_last_and_who_is_l).prog 34) (kwd := []) U.obL_eq
    (by kernel_rfl) (fun s => by kernel_rfl) U.run_head (by kernel_rfl) (by kernel_rfl) (by kernel_rfl) (by rfl) (by first | assumption | decide +kernel) (by decide +kernel) ⟨rfl, rfl, rfl, rfl, rfl, by decide +kernel⟩ ?hw ?hc
  case hw => w_witness2
  case hc =>
    refine U.walk_U2 (l := PySem.Challenge.rw_upbyany_k36_who_can_be_last_and_who_is_l) (n := 63) (k := 20) (x := "_law_script") (den := U.den_law) rfl (by decide) (by kernel_rfl) ⟨rfl, by decide, by decide⟩ ?F U.law_true
    intro w mg fa h Y G hmg0
    obtain ⟨K, KX, c⟩ := Y
    have hmg : mg ("law" : PySem.Str) = some (.ref fa) := by
      have e : (HandSHeadRun.topDef (PySem.W.OpenLaw.row PySem.Challenge.rw_upbyany_k36_who_can_be_last_and_who_is_l).prog 34).name = ("law" : PySem.Str) := by kernel_rfl
      rw [← e]
      exact hmg0
    obtain ⟨fd, hb, hF⟩ := U.facts (P := (PySem.Challenge.rw_upbyany_k36_who_can_be_last_and_who_is_l).prog) (w := w) KX G hmg c
    exact ⟨K, fd, KX, hb, hF⟩
end
