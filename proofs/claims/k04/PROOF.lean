import PyProof.Rows.All
import Wide.All
import OpenK.AllK
import Wide.FinOn
import KE.KStateDown
import HandS.ForMost
import HandS.ForExc
import HandS.Wide
import HandS.Defaults
import HandS.CallSlots
import HandS.Exc
import HandS.Lambda
import HandS.TupAny
import HandS.DictComp
import HandS.IsInst
import HandS.More
import HandS.AnyAll
import HandS.Deep
import PyProof.StrBlock2
import HandS.RaiseMore
import HandS.Text
import HandS.Star
import HandS.MakeKw
import HandS.Property
import HandS.Small
import HandS.HeadHook2
import HandS.WordsExc
import HandS.HeadHook3
import HandS.Head0
import HandS.Head1
import HandS.Head2
import HandS.HeadEnd
import HandS.Set
import HandS.SetFor
import HandS.FStr
import HandS.ClsMeth
import HandS.HeadNt
import KE.KRevSl
import HandS.Style
import HandS.DictEq
import HandS.Flow
import KE.KExcSuper
import KE.KExcInit
import HandS.ExcField
import HandS.ExcValue
import HandS.TryOnly
import HandS.HotCalls
import KE.KTryMore
import HandS.EndTab
import KE.GoesRaise
import HandS.Codes
import HandS.HeadHook1
import PySem.Challenge.RW_brimweb_k04_texts_of_numbers
set_option Elab.async false
set_option linter.all false
set_option maxRecDepth 100000
set_option maxHeartbeats 0
/-! Mini A: values as trees, how they lie in the abstract heap, the monad of the mirrors, the judgements. -/
namespace Mi
open PySem PySem.Spec PyProof.Rows L2

/-! ### values -/
inductive U where
  | non | bl (b : Bool) | int (i : Int) | str (x : Str)
  | tup (xs : List U) | lst (xs : List U) | kl (xs : List U)
  | dK (kvs : List (Key × U)) | dT (kvs : List (List Key × U))
  | obj (c : Str) (fs : List (Str × U))
  | exc (c : Str) (fs : List (Str × U))
  | cls (c : Str) | ty (n : String)
  | ref (j : Nat) | slot (i : Nat)
  | tbl (q : Str)

/-- the written part -/
structure Gx where
  K : PySem.W.Frag
  mg : Str → Option Value

/-- whose objects may change: of the frame's names, of the store, one just made, the callers' -/
structure Rho where
  os : Nat → Option Addr
  ss : Nat → Option Addr
  tm : Option Addr
  Z : Addr → Prop
def Rho.wr (ρ : Rho) (a : Addr) : Prop := (∃ i, ρ.os i = some a) ∨ (∃ j, ρ.ss j = some a) ∨ ρ.tm = some a ∨ ρ.Z a

/-- a tuple, a list by value: tracked and nobody's, or of the written part -/
def TupR (G : Gx) (ρ : Rho) (H : Hp) (a : Addr) (vs : List V) : Prop := (H a = some (.tup vs) ∧ ¬ ρ.wr a) ∨
  ((∀ x y, vs ≠ [V.str x, V.str y]) ∧ ∃ (o : Obj) (its : Array Value) (n : Nat), G.K.lookup a = some o ∧ o.cls = .type "tuple" ∧ o.data = .seq its n ∧ its.size ≤ sizeLine ∧ Vals vs its.toList)
def LstR (ρ : Rho) (H : Hp) (a : Addr) (vs : List V) : Prop := H a = some (.lst vs) ∧ ¬ ρ.wr a
/-- .. that is only read: the script, a module's constant -/
def KlR (G : Gx) (ρ : Rho) (H : Hp) (a : Addr) (vs : List V) : Prop := (Rd H a (.lst vs) ∧ ¬ ρ.wr a) ∨
  ∃ (o : Obj) (its : Array Value) (n : Nat), G.K.lookup a = some o ∧ o.cls = .type "list" ∧ o.dict = none ∧ o.data = .seq its n ∧ its.size ≤ sizeLine ∧ Vals vs its.toList
theorem TupR.sq {G : Gx} {ρ : Rho} {H : Hp} {a : Addr} {vs : List V} (h : TupR G ρ H a vs) : SqT G.K H a vs := h.imp (fun h => .inl h.1) fun h => h.2
theorem LstR.sq {K : PySem.W.Frag} {ρ : Rho} {H : Hp} {a : Addr} {vs : List V} (h : LstR ρ H a vs) : SqL K H a vs := .of h.1
theorem KlR.sq {G : Gx} {ρ : Rho} {H : Hp} {a : Addr} {vs : List V} (h : KlR G ρ H a vs) : SqL G.K H a vs := h.imp (·.1) id
theorem TupR.of {G : Gx} {ρ : Rho} {H : Hp} {a : Addr} {vs : List V} (h : H a = some (.tup vs)) (n : ¬ ρ.wr a) : TupR G ρ H a vs := .inl ⟨h, n⟩
theorem LstR.of {ρ : Rho} {H : Hp} {a : Addr} {vs : List V} (h : H a = some (.lst vs)) (n : ¬ ρ.wr a) : LstR ρ H a vs := ⟨h, n⟩

/-- an exception's object, just as it stands -/
def exq (a : Addr) (oe : Obj) : HO := .frz oe (.ext fun h => ∃ o, h.get? a = some o)
mutual
inductive Rep (G : Gx) (ρ : Rho) (H : Hp) : U → V → Prop where
  | non : Rep G ρ H .non .non
  | bl {b} : Rep G ρ H (.bl b) (.bl b)
  | int {i} : Rep G ρ H (.int i) (.int i)
  | str {x} : Rep G ρ H (.str x) (.str x)
  | tup {us a vs} (h : TupR G ρ H a vs) (r : Reps G ρ H us vs) : Rep G ρ H (.tup us) (.ref a)
  | lst {us a vs} (h : LstR ρ H a vs) (r : Reps G ρ H us vs) : Rep G ρ H (.lst us) (.ref a)
  | kl {us a vs} (h : KlR G ρ H a vs) (r : Reps G ρ H us vs) : Rep G ρ H (.kl us) (.ref a)
  | dK {us a vs} (h : Rd H a (.dK vs)) (n : ¬ ρ.wr a) (r : RepD G ρ H us vs) : Rep G ρ H (.dK us) (.ref a)
  | dT {us a vs} (h : Rd H a (.dT vs)) (n : ¬ ρ.wr a) (r : RepT G ρ H us vs) : Rep G ρ H (.dT us) (.ref a)
  | obj {c us a C dx vs} (m : G.mg c = some (.ref C)) (h : H a = some (.ins C dx vs)) (n : ¬ ρ.wr a) (r : RepF G ρ H us vs) : Rep G ρ H (.obj c us) (.ref a)
  | exc {c us a C dx vs oe} (m : G.mg c = some (.ref C)) (z : Zc (.ref C) (some dx) oe ∧ ∃ fv, oe.data = .fields fv) (h : H a = some (exq a oe)) (hd : H dx = some (.xd vs)) (n : ¬ ρ.wr a) (n' : ¬ ρ.wr dx) (r : RepF G ρ H us vs) : Rep G ρ H (.exc c us) (.ref a)
  | cls {c C} (m : G.mg c = some (.ref C)) : Rep G ρ H (.cls c) (.ref C)
  | ty {n} : Rep G ρ H (.ty n) (.ty n)
  | ref {j a} (h : ρ.ss j = some a) : Rep G ρ H (.ref j) (.ref a)
inductive Reps (G : Gx) (ρ : Rho) (H : Hp) : List U → List V → Prop where
  | nil : Reps G ρ H [] []
  | cons {u v us vs} (h : Rep G ρ H u v) (r : Reps G ρ H us vs) : Reps G ρ H (u :: us) (v :: vs)
inductive RepD (G : Gx) (ρ : Rho) (H : Hp) : List (Key × U) → List (Key × V) → Prop where
  | nil : RepD G ρ H [] []
  | cons {k u v us vs} (h : Rep G ρ H u v) (r : RepD G ρ H us vs) : RepD G ρ H ((k, u) :: us) ((k, v) :: vs)
inductive RepT (G : Gx) (ρ : Rho) (H : Hp) : List (List Key × U) → List (List Key × V) → Prop where
  | nil : RepT G ρ H [] []
  | cons {k u v us vs} (h : Rep G ρ H u v) (r : RepT G ρ H us vs) : RepT G ρ H ((k, u) :: us) ((k, v) :: vs)
inductive RepF (G : Gx) (ρ : Rho) (H : Hp) : List (Str × U) → List (Str × V) → Prop where
  | nil : RepF G ρ H [] []
  | cons {k u v us vs} (h : Rep G ρ H u v) (r : RepF G ρ H us vs) : RepF G ρ H ((k, u) :: us) ((k, v) :: vs)
end

def isD : HO → Prop
  | .dK _ => True
  | .dT _ => True
  | _ => False
/-- kept, or (a dict) locked -/
def Kept (o : HO) (r : Option HO) : Prop := r = some o ∨ ∃ ob, r = some (.frz ob o) ∧ isD o
theorem Kept.trans {o : HO} {r r' : Option HO} (h : Kept o r) (k : ∀ u, r = some u → Kept u r') : Kept o r' := by
  rcases h with h | ⟨ob, h, d⟩
  · exact k o h
  · rcases k _ h with k | ⟨ob', _, d'⟩
    · exact .inr ⟨ob, k, d⟩
    · exact d'.elim
theorem Kept.rd {H H' : Hp} {a : Addr} {o : HO} (h : Rd H a o) (d : isD o) (k : ∀ u, H a = some u → Kept u (H' a)) : Rd H' a o := by
  rcases h with h | ⟨ob, h⟩
  · rcases k _ h with k | ⟨ob, k, _⟩
    · exact .inl k
    · exact .inr ⟨ob, k⟩
  · rcases k _ h with k | ⟨ob', _, d'⟩
    · exact .inr ⟨ob, k⟩
    · exact d'.elim
theorem Kept.same {o : HO} {r : Option HO} (h : Kept o r) (d : ¬ isD o) : r = some o := by
  rcases h with h | ⟨_, _, q⟩
  · exact h
  · exact absurd q d
/-- no table of code objects -/
def noT : HO → Prop
  | .tbl _ => False
  | _ => True
theorem Kept.noT {o u : HO} (h : Kept o (some u)) (n : noT o) : noT u := by
  rcases h with h | ⟨ob, h, d⟩
  · cases h; exact n
  · cases h; trivial
theorem Kept.rdT {H H' : Hp} {a : Addr} {o : HO} (h : Rd H a o) (d : isD o) (k : ∀ u, H a = some u → Mi.noT u → Kept u (H' a)) : Rd H' a o := Kept.rd h d fun u e => k u e (by
  rcases h with h | ⟨ob, h⟩
  · rw [h] at e; cases e
    cases o <;> first | trivial | exact d.elim
  · rw [h] at e; cases e; trivial)
theorem isD.noT {o : HO} (h : isD o) : noT o := by cases o <;> first | trivial | exact h.elim
/-- what stands by value stays -/
structure Up (G : Gx) (ρ : Rho) (H : Hp) (ρ' : Rho) (H' : Hp) : Prop where
  keep : ∀ a o, H a = some o → ¬ ρ.wr a → noT o → Kept o (H' a) ∧ ¬ ρ'.wr a
  ss : ∀ j a, ρ.ss j = some a → ρ'.ss j = some a
/-- from one state to a later one -/
structure Ext (G : Gx) (ρ : Rho) (H : Hp) (ρ' : Rho) (H' : Hp) : Prop extends Up G ρ H ρ' H' where
  Z : ρ'.Z = ρ.Z
  zk : ∀ a o, ρ.Z a → H a = some o → noT o → H' a = some o
section
variable {G : Gx} {ρ ρ' ρ'' : Rho} {H H' H'' : Hp}
theorem Up.refl : Up G ρ H ρ H := ⟨fun _ _ e n _ => ⟨.inl e, n⟩, fun _ _ e => e⟩
theorem Ext.refl : Ext G ρ H ρ H := ⟨Up.refl, rfl, fun _ _ _ e _ => e⟩
theorem Up.trans (x : Up G ρ H ρ' H') (y : Up G ρ' H' ρ'' H'') : Up G ρ H ρ'' H'' :=
  ⟨fun a o e n t => let ⟨e1, n1⟩ := x.keep a o e n t; ⟨e1.trans fun u q => (y.keep a u q n1 (Kept.noT (by rw [← q]; exact e1) t)).1, by
    rcases e1 with e1 | ⟨_, e1, _⟩
    · exact (y.keep a _ e1 n1 t).2
    · exact (y.keep a _ e1 n1 trivial).2⟩, fun j a e => y.ss j a (x.ss j a e)⟩
theorem Ext.trans (x : Ext G ρ H ρ' H') (y : Ext G ρ' H' ρ'' H'') : Ext G ρ H ρ'' H'' :=
  ⟨x.toUp.trans y.toUp, y.Z.trans x.Z, fun a o z e t => y.zk a o (by rw [x.Z]; exact z) (x.zk a o z e t) t⟩
theorem Up.nw (x : Up G ρ H ρ' H') {a : Addr} {u : HO} (h : Rd H a u) (n : ¬ ρ.wr a) (t : noT u) : ¬ ρ'.wr a := by
  rcases h with h | ⟨_, h⟩
  · exact (x.keep a _ h n t).2
  · exact (x.keep a _ h n trivial).2
theorem Up.tupR (x : Up G ρ H ρ' H') {a : Addr} {vs : List V} (h : TupR G ρ H a vs) : TupR G ρ' H' a vs := by
  rcases h with ⟨h, n⟩ | h
  · exact .inl ⟨(x.keep a _ h n trivial).1.same id, (x.keep a _ h n trivial).2⟩
  · exact .inr h
theorem Up.klR (x : Up G ρ H ρ' H') {a : Addr} {vs : List V} (h : KlR G ρ H a vs) : KlR G ρ' H' a vs := by
  rcases h with ⟨h, n⟩ | h
  · refine .inl ⟨?_, x.nw h n trivial⟩
    rcases h with h | ⟨o, h⟩
    · exact .inl ((x.keep a _ h n trivial).1.same id)
    · exact .inr ⟨o, (x.keep a _ h n trivial).1.same id⟩
  · exact .inr h
theorem Up.lstR (x : Up G ρ H ρ' H') {a : Addr} {vs : List V} (h : LstR ρ H a vs) : LstR ρ' H' a vs :=
  ⟨(x.keep a _ h.1 h.2 trivial).1.same id, (x.keep a _ h.1 h.2 trivial).2⟩
mutual
theorem Rep.up (x : Up G ρ H ρ' H') : ∀ {u : U} {v : V}, Rep G ρ H u v → Rep G ρ' H' u v
  | _, _, .non => .non
  | _, _, .bl => .bl
  | _, _, .int => .int
  | _, _, .str => .str
  | _, _, .tup h r => .tup (x.tupR h) (Reps.up x r)
  | _, _, .lst h r => .lst (x.lstR h) (Reps.up x r)
  | _, _, .kl h r => .kl (x.klR h) (Reps.up x r)
  | _, _, .dK h n r => .dK (Kept.rdT h trivial fun u q t => (x.keep _ u q n t).1) (x.nw h n trivial) (RepD.up x r)
  | _, _, .dT h n r => .dT (Kept.rdT h trivial fun u q t => (x.keep _ u q n t).1) (x.nw h n trivial) (RepT.up x r)
  | _, _, .obj m h n r => let ⟨h', n'⟩ := x.keep _ _ h n trivial; .obj m (h'.same id) n' (RepF.up x r)
  | _, _, .exc m z h hd n n' r => let ⟨h', k⟩ := x.keep _ _ h n trivial; let ⟨hd', k'⟩ := x.keep _ _ hd n' trivial; .exc m z (h'.same id) (hd'.same id) k k' (RepF.up x r)
  | _, _, .cls m => .cls m
  | _, _, .ty => .ty
  | _, _, .ref h => .ref (x.ss _ _ h)
theorem Reps.up (x : Up G ρ H ρ' H') : ∀ {us : List U} {vs : List V}, Reps G ρ H us vs → Reps G ρ' H' us vs
  | _, _, .nil => .nil
  | _, _, .cons h r => .cons (Rep.up x h) (Reps.up x r)
theorem RepD.up (x : Up G ρ H ρ' H') : ∀ {us : List (Key × U)} {vs : List (Key × V)}, RepD G ρ H us vs → RepD G ρ' H' us vs
  | _, _, .nil => .nil
  | _, _, .cons h r => .cons (Rep.up x h) (RepD.up x r)
theorem RepT.up (x : Up G ρ H ρ' H') : ∀ {us : List (List Key × U)} {vs : List (List Key × V)}, RepT G ρ H us vs → RepT G ρ' H' us vs
  | _, _, .nil => .nil
  | _, _, .cons h r => .cons (Rep.up x h) (RepT.up x r)
theorem RepF.up (x : Up G ρ H ρ' H') : ∀ {us : List (Str × U)} {vs : List (Str × V)}, RepF G ρ H us vs → RepF G ρ' H' us vs
  | _, _, .nil => .nil
  | _, _, .cons h r => .cons (Rep.up x h) (RepF.up x r)
end
theorem Up.same (hw : ∀ a, ρ'.wr a → ρ.wr a) (hs : ∀ j a, ρ.ss j = some a → ρ'.ss j = some a) : Up G ρ H ρ' H := ⟨fun a o e n _ => ⟨.inl e, fun z => n (hw a z)⟩, hs⟩
theorem Reps.length : ∀ {us : List U} {vs : List V}, Reps G ρ H us vs → us.length = vs.length
  | _, _, .nil => rfl
  | _, _, .cons _ r => congrArg (· + 1) r.length
theorem Reps.get : ∀ {us : List U} {vs : List V} {i : Nat} {u : U}, Reps G ρ H us vs → us[i]? = some u → ∃ v, vs[i]? = some v ∧ Rep G ρ H u v
  | _, _, _, _, .nil, e => by simp at e
  | _, _, 0, _, .cons h r, e => by simp at e; subst e; exact ⟨_, rfl, h⟩
  | _, _, i + 1, u, .cons h r, e => by
    obtain ⟨v, h1, h2⟩ := Reps.get (i := i) (u := u) r (by simpa using e)
    exact ⟨v, by simpa using h1, h2⟩
theorem Reps.app : ∀ {us us' : List U} {vs vs' : List V}, Reps G ρ H us vs → Reps G ρ H us' vs' → Reps G ρ H (us ++ us') (vs ++ vs')
  | _, _, _, _, .nil, s => s
  | _, _, _, _, .cons h r, s => .cons h (r.app s)
theorem Reps.set : ∀ {us : List U} {vs : List V} (i : Nat) {u : U} {v : V}, Reps G ρ H us vs → Rep G ρ H u v → Reps G ρ H (us.set i u) (vs.set i v)
  | _, _, _, _, _, .nil, _ => .nil
  | _, _, 0, _, _, .cons h r, q => .cons q r
  | _, _, i + 1, _, _, .cons h r, q => .cons h (Reps.set i r q)
theorem Reps.take : ∀ {us : List U} {vs : List V} (i : Nat), Reps G ρ H us vs → Reps G ρ H (us.take i) (vs.take i)
  | _, _, 0, _ => .nil
  | _, _, _ + 1, .nil => .nil
  | _, _, i + 1, .cons h r => .cons h (Reps.take i r)
theorem Reps.drop : ∀ {us : List U} {vs : List V} (i : Nat), Reps G ρ H us vs → Reps G ρ H (us.drop i) (vs.drop i)
  | _, _, 0, r => r
  | _, _, _ + 1, .nil => .nil
  | _, _, i + 1, .cons h r => Reps.drop i r
end
end Mi

/-! Mini B: the mirrors' state and monad, the relation to a frame, the judgements, names, constants, operators, tests. -/
namespace Mi
open PySem PySem.Spec PyProof.Rows L2

inductive Sl where
  | no | val (u : U) | own (u : U)
structure MS where
  env : List Sl
  st : List U
inductive Res (σ α : Type) where
  | ok (a : α) (s : σ) | err (x : U) (s : σ) | stuck
abbrev M (α : Type) := MS → Res MS α
/-- a def: arguments, store -/
abbrev F := List U → List U → Res (List U) U
section
variable {α β : Type}
def ret (a : α) : M α := fun s => .ok a s
def bd (m : M α) (f : α → M β) : M β := fun s => match m s with
  | .ok a s' => f a s'
  | .err x s' => .err x s'
  | .stuck => .stuck
def stk : M α := fun _ => .stuck
def raise (x : U) : M α := fun s => .err x s
def when (b : Bool) (m : M α) : M α := fun s => if b = true then m s else .stuck
end

/-! ### owners -/
inductive Owner where
  | s (i : Nat) | j (i : Nat) | t | z
  deriving DecidableEq
inductive Rho.At (ρ : Rho) : Owner → Addr → Prop where
  | s {i a} : ρ.os i = some a → ρ.At (.s i) a
  | j {i a} : ρ.ss i = some a → ρ.At (.j i) a
  | t {a} : ρ.tm = some a → ρ.At .t a
  | z {a} : ρ.Z a → ρ.At .z a
theorem Rho.wr_iff {ρ : Rho} {a : Addr} : ρ.wr a ↔ ∃ o, ρ.At o a := by
  constructor
  · rintro (⟨i, h⟩ | ⟨i, h⟩ | h | h)
    · exact ⟨_, .s h⟩
    · exact ⟨_, .j h⟩
    · exact ⟨_, .t h⟩
    · exact ⟨_, .z h⟩
  · rintro ⟨o, h⟩
    cases h with
    | s h => exact .inl ⟨_, h⟩
    | j h => exact .inr (.inl ⟨_, h⟩)
    | t h => exact .inr (.inr (.inl h))
    | z h => exact .inr (.inr (.inr h))
theorem Rho.At.wr {ρ : Rho} {a : Addr} {o : Owner} (h : ρ.At o a) : ρ.wr a := Rho.wr_iff.mpr ⟨o, h⟩

/-- an object that may change, by its content -/
def Own (G : Gx) (ρ : Rho) (H : Hp) (u : U) (a : Addr) : Prop := match u with
  | .lst us => ∃ vs, H a = some (.lst vs) ∧ Reps G ρ H us vs
  | .dK us => ∃ vs, H a = some (.dK vs) ∧ RepD G ρ H us vs
  | .dT us => ∃ vs, H a = some (.dT vs) ∧ RepT G ρ H us vs
  | .obj c us => ∃ C dx vs, G.mg c = some (.ref C) ∧ H a = some (.ins C dx vs) ∧ RepF G ρ H us vs
  | _ => False
theorem Own.up {G : Gx} {ρ ρ' : Rho} {H H' : Hp} {u : U} {a : Addr} (h : Own G ρ H u a) (x : Up G ρ H ρ' H') (k : ∀ o, H a = some o → H' a = some o) : Own G ρ' H' u a := by
  cases u with
  | lst us => obtain ⟨vs, e, r⟩ := h; exact ⟨vs, k _ e, r.up x⟩
  | dK us => obtain ⟨vs, e, r⟩ := h; exact ⟨vs, k _ e, r.up x⟩
  | dT us => obtain ⟨vs, e, r⟩ := h; exact ⟨vs, k _ e, r.up x⟩
  | obj c us => obtain ⟨C, dx, vs, m, e, r⟩ := h; exact ⟨C, dx, vs, m, k _ e, r.up x⟩
  | _ => exact h.elim
theorem Own.rep {G : Gx} {ρ : Rho} {H : Hp} {u : U} {a : Addr} (h : Own G ρ H u a) (n : ¬ ρ.wr a) : Rep G ρ H u (.ref a) := by
  cases u with
  | lst us => obtain ⟨vs, e, r⟩ := h; exact .lst (.of e n) r
  | dK us => obtain ⟨vs, e, r⟩ := h; exact .dK (.inl e) n r
  | dT us => obtain ⟨vs, e, r⟩ := h; exact .dT (.inl e) n r
  | obj c us => obtain ⟨C, dx, vs, m, e, r⟩ := h; exact .obj m e n r
  | _ => exact h.elim
theorem Own.has {G : Gx} {ρ : Rho} {H : Hp} {u : U} {a : Addr} (h : Own G ρ H u a) : ∃ o, H a = some o := by
  cases u with
  | lst us => obtain ⟨vs, e, r⟩ := h; exact ⟨_, e⟩
  | dK us => obtain ⟨vs, e, r⟩ := h; exact ⟨_, e⟩
  | dT us => obtain ⟨vs, e, r⟩ := h; exact ⟨_, e⟩
  | obj c us => obtain ⟨C, dx, vs, m, e, r⟩ := h; exact ⟨_, e⟩
  | _ => exact h.elim

/-- what an owned object is -/
def MutK : HO → Prop
  | .tbl _ => True
  | .lst _ => True
  | .dK _ => True
  | .dT _ => True
  | .ins _ _ _ => True
  | _ => False
theorem Own.mut {G : Gx} {ρ : Rho} {H : Hp} {u : U} {a : Addr} (h : Own G ρ H u a) : ∃ o, H a = some o ∧ MutK o := by
  cases u with
  | lst us => obtain ⟨vs, e, r⟩ := h; exact ⟨_, e, trivial⟩
  | dK us => obtain ⟨vs, e, r⟩ := h; exact ⟨_, e, trivial⟩
  | dT us => obtain ⟨vs, e, r⟩ := h; exact ⟨_, e, trivial⟩
  | obj c us => obtain ⟨C, dx, vs, m, e, r⟩ := h; exact ⟨_, e, trivial⟩
  | _ => exact h.elim
/-- the table of the code object of the module's def x -/
def tabA (K : PySem.W.Frag) (x : Str) : Addr := match PySem.W.nsIn K mainGlobals x with
  | some (some (.ref f)) => (match K.lookup f with
    | some ⟨_, _, .func fd, _⟩ => (match fd.code with
      | .ref c => (match K.lookup c with
        | some ⟨_, _, .fields vs, _⟩ => (match (vs[11]? : Option Value) with
          | some (.ref P) => P
          | _ => 0)
        | _ => 0)
      | _ => 0)
    | _ => 0)
  | _ => 0
/-- the name that the lambdas of the def x bear -/
def lamN (x : Str) : Str := x ++ ".<locals>." ++ "<lambda>"
/-- that table: all its code objects bear that name -/
def TabO (G : Gx) (ρ : Rho) (H : Hp) (a : Addr) (q : Str) : Prop := a = tabA G.K q ∧ ∃ ps : Array Value, H a = some (.tbl ps) ∧ TriplesOk ps.toList ∧ ∀ (pos : Pos) (cv : Value), codeAmong pos ps.toList = some cv → ∃ c, cv = .ref c ∧ H c = some (LamX.CodeO c (lamN q)) ∧ ¬ ρ.wr c
/-- .. what the store holds -/
def OwnS (G : Gx) (ρ : Rho) (H : Hp) (u : U) (a : Addr) : Prop := match u with
  | .tbl q => TabO G ρ H a q
  | u => Own G ρ H u a
theorem OwnS.own {G : Gx} {ρ : Rho} {H : Hp} {u : U} {a : Addr} (h : OwnS G ρ H u a) (n : ∀ q, u ≠ .tbl q) : Own G ρ H u a := by
  cases u with
  | tbl q => exact absurd rfl (n q)
  | _ => exact h
theorem Own.s {G : Gx} {ρ : Rho} {H : Hp} {u : U} {a : Addr} (h : Own G ρ H u a) : OwnS G ρ H u a := by
  cases u with
  | tbl q => exact h.elim
  | _ => exact h
theorem TabO.up {G : Gx} {ρ ρ' : Rho} {H H' : Hp} {a : Addr} {q : Str} (h : TabO G ρ H a q) (x : Up G ρ H ρ' H') (k : ∀ o, H a = some o → H' a = some o) : TabO G ρ' H' a q := by
  obtain ⟨ea, ps, e, t, h⟩ := h
  refine ⟨ea, ps, k _ e, t, fun pos cv hc => ?_⟩
  obtain ⟨c, e1, e2, n⟩ := h pos cv hc
  have z := x.keep c _ e2 n trivial
  exact ⟨c, e1, z.1.same id, z.2⟩
theorem OwnS.up {G : Gx} {ρ ρ' : Rho} {H H' : Hp} {u : U} {a : Addr} (h : OwnS G ρ H u a) (x : Up G ρ H ρ' H') (k : ∀ o, H a = some o → H' a = some o) : OwnS G ρ' H' u a := by
  by_cases z : ∃ q, u = .tbl q
  · obtain ⟨q, rfl⟩ := z
    exact TabO.up h x k
  · exact ((h.own fun q e => z ⟨q, e⟩).up x k).s
theorem OwnS.mut {G : Gx} {ρ : Rho} {H : Hp} {u : U} {a : Addr} (h : OwnS G ρ H u a) : ∃ o, H a = some o ∧ MutK o := by
  by_cases z : ∃ q, u = .tbl q
  · obtain ⟨q, rfl⟩ := z
    obtain ⟨_, ps, e, _⟩ := h
    exact ⟨_, e, trivial⟩
  · exact (h.own fun q e => z ⟨q, e⟩).mut
theorem Own.noT {G : Gx} {ρ : Rho} {H : Hp} {u : U} {a : Addr} {o : HO} (h : Own G ρ H u a) (e : H a = some o) : Mi.noT o := by
  cases u with
  | lst us => obtain ⟨vs, q, r⟩ := h; rw [q] at e; cases e; trivial
  | dK us => obtain ⟨vs, q, r⟩ := h; rw [q] at e; cases e; trivial
  | dT us => obtain ⟨vs, q, r⟩ := h; rw [q] at e; cases e; trivial
  | obj c us => obtain ⟨C, dx, vs, m, q, r⟩ := h; rw [q] at e; cases e; trivial
  | _ => exact h.elim
/-- what an owned object is: the callers' are no tables -/
def MutZ (ρ : Rho) (a : Addr) (o : HO) : Prop := MutK o ∧ (ρ.Z a → noT o)
/-- the mirror's state tells the frame and the heap; t: an object just made -/
structure RlT (G : Gx) (t : Option Addr) (ρ : Rho) (s : MS) (σ : L2.St) (H : Hp) : Prop where
  len : s.env.length = σ.length
  val : ∀ (i : Nat) (u : U), s.env[i]? = some (Sl.val u) → ∃ v : V, σ[i]? = some (some v) ∧ Rep G ρ H u v
  own : ∀ (i : Nat) (u : U), s.env[i]? = some (Sl.own u) → ∃ a : Addr, σ[i]? = some (some (V.ref a)) ∧ ρ.os i = some a ∧ Own G ρ H u a
  os : ∀ i a, ρ.os i = some a → ∃ u, s.env[i]? = some (Sl.own u)
  sto : ∀ (j : Nat) (u : U), s.st[j]? = some u → ∃ a, ρ.ss j = some a ∧ OwnS G ρ H u a
  ss : ∀ j a, ρ.ss j = some a → j < s.st.length
  dj : ∀ o o' a, ρ.At o a → ρ.At o' a → o = o'
  occ : ∀ a, ρ.wr a → ∃ o, H a = some o ∧ MutZ ρ a o
  tm : ρ.tm = t
abbrev Rl (G : Gx) := RlT G none
section
variable {G : Gx} {t : Option Addr} {ρ ρ' : Rho} {s s' : MS} {σ σ' : L2.St} {H H' : Hp} {a p : Addr} {o : HO} {u : U} {v : V}
theorem RlT.occK (R : RlT G t ρ s σ H) : ∀ a, ρ.wr a → ∃ o, H a = some o ∧ MutK o := fun a w => let ⟨o, e, m⟩ := R.occ a w; ⟨o, e, m.1⟩
theorem RlT.fresh (R : RlT G t ρ s σ H) (hp : H p = none) : ¬ ρ.wr p := fun z => by
  obtain ⟨o, e, _⟩ := R.occ p z
  rw [hp] at e; cases e
/-- a new object that nobody owns -/
theorem RlT.laidUp (R : RlT G t ρ s σ H) (hp : H p = none) : Up G ρ H ρ (upd H p o) := ⟨fun a q e n _ => ⟨.inl (by rw [upd_ne (ne_of_none e hp)]; exact e), n⟩, fun _ _ e => e⟩
theorem RlT.laidExt (R : RlT G t ρ s σ H) (hp : H p = none) : Ext G ρ H ρ (upd H p o) := ⟨R.laidUp hp, rfl, fun a q _ e _ => by rw [upd_ne (ne_of_none e hp)]; exact e⟩
/-- the heap moves, all owned things stay -/
theorem RlT.move (R : RlT G t ρ s σ H) (x : Up G ρ H ρ H') (k : ∀ a o, ρ.wr a → H a = some o → H' a = some o) : RlT G t ρ s σ H' where
  len := R.len
  val := fun i u e => let ⟨v, h, r⟩ := R.val i u e; ⟨v, h, r.up x⟩
  own := fun i u e => let ⟨a, h, h', r⟩ := R.own i u e; ⟨a, h, h', r.up x fun o q => k a o (Rho.At.wr (.s h')) q⟩
  os := R.os
  sto := fun j u e => let ⟨a, h, r⟩ := R.sto j u e; ⟨a, h, r.up x fun o q => k a o (Rho.At.wr (.j h)) q⟩
  ss := R.ss
  dj := R.dj
  occ := fun a w => let ⟨o, e, m⟩ := R.occ a w; ⟨o, k a o w e, m⟩
  tm := R.tm
theorem RlT.laid (R : RlT G t ρ s σ H) (hp : H p = none) : RlT G t ρ s σ (upd H p o) :=
  R.move (R.laidUp hp) fun a q _ e => by rw [upd_ne (ne_of_none e hp)]; exact e
end

/-- a value in flight: a name's object may be told by the name -/
def RepE (G : Gx) (ρ : Rho) (σ : L2.St) (H : Hp) (u : U) (v : V) : Prop := match u with
  | .slot i => σ[i]? = some (some v)
  | u => Rep G ρ H u v
theorem Rep.e {G : Gx} {ρ : Rho} {σ : L2.St} {H : Hp} {u : U} {v : V} (h : Rep G ρ H u v) : RepE G ρ σ H u v := by
  cases h with
  | non => exact .non
  | bl => exact .bl
  | int => exact .int
  | str => exact .str
  | tup a b => exact .tup a b
  | lst a b => exact .lst a b
  | kl a b => exact .kl a b
  | dK a b c => exact .dK a b c
  | dT a b c => exact .dT a b c
  | obj a b c d => exact .obj a b c d
  | exc a b c d e f g => exact .exc a b c d e f g
  | cls m => exact .cls m
  | ty => exact .ty
  | ref h => exact .ref h
theorem RepE.up {G : Gx} {ρ ρ' : Rho} {σ : L2.St} {H H' : Hp} {u : U} {v : V} (h : RepE G ρ σ H u v) (x : Up G ρ H ρ' H') : RepE G ρ' σ H' u v := by
  cases u with
  | slot i => exact h
  | _ => exact Rep.up x h
/-- what is read of an object: by value, or owned -/
def Con (G : Gx) (ρ : Rho) (H : Hp) (u : U) (v : V) : Prop := Rep G ρ H u v ∨ ∃ a, v = .ref a ∧ OwnS G ρ H u a
/-- the content behind a value in flight -/
def cont (s : MS) : U → Option U
  | .slot i => match s.env[i]? with
    | some (Sl.own u) => some u
    | some (Sl.val u) => some u
    | _ => none
  | .ref j => s.st[j]?
  | u => some u
theorem cont_ok {G : Gx} {t : Option Addr} {ρ : Rho} {s : MS} {σ : L2.St} {H : Hp} {u u' : U} {v : V} (R : RlT G t ρ s σ H) (r : RepE G ρ σ H u v) (e : cont s u = some u') : Con G ρ H u' v := by
  cases u with
  | slot i =>
    have r : σ[i]? = some (some v) := r
    have e : (match s.env[i]? with | some (Sl.own u) => some u | some (Sl.val u) => some u | _ => none) = some u' := e
    cases q : s.env[i]? with
    | none => rw [q] at e; cases e
    | some x =>
      rw [q] at e
      cases x with
      | no => cases e
      | val w =>
        cases e
        obtain ⟨v', h, z⟩ := R.val i _ q
        rw [h] at r; cases r
        exact .inl z
      | own w =>
        cases e
        obtain ⟨a, h, _, z⟩ := R.own i _ q
        rw [h] at r; cases r
        exact .inr ⟨a, rfl, z.s⟩
  | ref j =>
    have r : Rep G ρ H (.ref j) v := r
    cases r with
    | ref h =>
      obtain ⟨a, h', z⟩ := R.sto j u' e
      rw [h] at h'; cases h'
      exact .inr ⟨_, rfl, z⟩
  | _ => cases e; exact .inl r
theorem Con.lst {G : Gx} {ρ : Rho} {H : Hp} {us : List U} {v : V} (h : Con G ρ H (.lst us) v) : ∃ a vs, v = .ref a ∧ H a = some (.lst vs) ∧ Reps G ρ H us vs := by
  rcases h with h | ⟨a, rfl, vs, e, r⟩
  · cases h with
    | lst h r => exact ⟨_, _, rfl, h.1, r⟩
  · exact ⟨_, _, rfl, e, r⟩
theorem Con.kl {G : Gx} {ρ : Rho} {H : Hp} {us : List U} {v : V} (h : Con G ρ H (.kl us) v) : ∃ a vs, v = .ref a ∧ SqL G.K H a vs ∧ Reps G ρ H us vs := by
  rcases h with h | ⟨a, rfl, q⟩
  · cases h with
    | kl h r => exact ⟨_, _, rfl, h.sq, r⟩
  · exact q.elim
theorem Con.tup {G : Gx} {ρ : Rho} {H : Hp} {us : List U} {v : V} (h : Con G ρ H (.tup us) v) : ∃ a vs, v = .ref a ∧ SqT G.K H a vs ∧ Reps G ρ H us vs := by
  rcases h with h | ⟨a, rfl, q⟩
  · cases h with
    | tup h r => exact ⟨_, _, rfl, h.sq, r⟩
  · exact q.elim
theorem Con.tupR {G : Gx} {ρ : Rho} {H : Hp} {us : List U} {v : V} (h : Con G ρ H (.tup us) v) : ∃ a vs, v = .ref a ∧ TupR G ρ H a vs ∧ Reps G ρ H us vs := by
  rcases h with h | ⟨a, rfl, q⟩
  · cases h with
    | tup h r => exact ⟨_, _, rfl, h, r⟩
  · exact q.elim
theorem Con.dK {G : Gx} {ρ : Rho} {H : Hp} {us : List (Key × U)} {v : V} (h : Con G ρ H (.dK us) v) : ∃ a vs, v = .ref a ∧ Rd H a (.dK vs) ∧ RepD G ρ H us vs := by
  rcases h with h | ⟨a, rfl, vs, e, r⟩
  · cases h with
    | dK h n r => exact ⟨_, _, rfl, h, r⟩
  · exact ⟨_, _, rfl, .inl e, r⟩
theorem Con.dT {G : Gx} {ρ : Rho} {H : Hp} {us : List (List Key × U)} {v : V} (h : Con G ρ H (.dT us) v) : ∃ a vs, v = .ref a ∧ Rd H a (.dT vs) ∧ RepT G ρ H us vs := by
  rcases h with h | ⟨a, rfl, vs, e, r⟩
  · cases h with
    | dT h n r => exact ⟨_, _, rfl, h, r⟩
  · exact ⟨_, _, rfl, .inl e, r⟩
theorem Con.obj {G : Gx} {ρ : Rho} {H : Hp} {c : Str} {us : List (Str × U)} {v : V} (h : Con G ρ H (.obj c us) v) : ∃ a C dx vs, v = .ref a ∧ G.mg c = some (.ref C) ∧ H a = some (.ins C dx vs) ∧ RepF G ρ H us vs := by
  rcases h with h | ⟨a, rfl, C, dx, vs, m, e, r⟩
  · cases h with
    | obj m h n r => exact ⟨_, _, _, _, rfl, m, h, r⟩
  · exact ⟨_, _, _, _, rfl, m, e, r⟩
theorem Con.int {G : Gx} {ρ : Rho} {H : Hp} {i : Int} {v : V} (h : Con G ρ H (.int i) v) : v = .int i := by
  rcases h with h | ⟨a, rfl, q⟩
  · cases h; rfl
  · exact q.elim
theorem Con.bl {G : Gx} {ρ : Rho} {H : Hp} {i : Bool} {v : V} (h : Con G ρ H (.bl i) v) : v = .bl i := by
  rcases h with h | ⟨a, rfl, q⟩
  · cases h; rfl
  · exact q.elim
theorem Con.str {G : Gx} {ρ : Rho} {H : Hp} {i : Str} {v : V} (h : Con G ρ H (.str i) v) : v = .str i := by
  rcases h with h | ⟨a, rfl, q⟩
  · cases h; rfl
  · exact q.elim
theorem Con.non {G : Gx} {ρ : Rho} {H : Hp} {v : V} (h : Con G ρ H .non v) : v = .non := by
  rcases h with h | ⟨a, rfl, q⟩
  · cases h; rfl
  · exact q.elim

/-! ### exceptions -/
/-- an own exception in the air: its class, its dict -/
def ExcRep (G : Gx) (ρ : Rho) (H : Hp) (x : U) (cls : Value) (d : Option Addr) : Prop := match x with
  | .exc c fs => ∃ C, G.mg c = some (.ref C) ∧ cls = .ref C ∧ ∃ dx vs, d = some dx ∧ H dx = some (.xd vs) ∧ RepF G ρ H fs vs
  | .ty n => cls = .type n ∧ d = none
  | _ => False

/-! ### judgements -/
abbrev gx (X : Cx) : Gx := ⟨X.K, X.mg⟩
/-- an outcome of the mirror, told of all heaps that bear it -/
def Ok {α β : Type} (X : Cx) (W : WX) (R : Rho → Hp → α → β → Prop) (ρ : Rho) (σ : L2.St) (H : Hp) (r : Res MS α) (Q : β → Hp → Prop) : Prop := match r with
  | .ok u s' => ∀ ρ' H' v, Ext (gx X) ρ H ρ' H' → Rl (gx X) ρ' s' σ H' → R ρ' H' u v → Q v H'
  | .err x s' => ∀ ρ' H' cls d, Ext (gx X) ρ H ρ' H' → Rl (gx X) ρ' s' σ H' → ExcRep (gx X) ρ' H' x cls d → W cls d σ H'
  | .stuck => False
abbrev OkE (X : Cx) (W : WX) (ρ : Rho) (σ : L2.St) (H : Hp) := Ok X W (fun ρ' H' u v => RepE (gx X) ρ' σ H' u v) ρ σ H
abbrev OkV (X : Cx) (W : WX) (ρ : Rho) (σ : L2.St) (H : Hp) := Ok X W (fun ρ' H' u v => Rep (gx X) ρ' H' u v) ρ σ H
abbrev OkB (X : Cx) (W : WX) (ρ : Rho) (σ : L2.St) (H : Hp) := Ok (α := Bool) (β := Bool) X W (fun _ _ u v => u = v) ρ σ H
abbrev OkA (X : Cx) (W : WX) (ρ : Rho) (σ : L2.St) (H : Hp) := Ok X W (fun ρ' H' u v => Reps (gx X) ρ' H' u v) ρ σ H
/-- an expression; the value may be a name's -/
def SE0 (X : Cx) (W : WX) (e : Expr) (m : M U) : Prop :=
  ∃ t, PE X e t ∧ ∀ ρ s σ H Q, Rl (gx X) ρ s σ H → OkE X W ρ σ H (m s) Q → t σ H Q
/-- an expression; the value stands by itself -/
def SE (X : Cx) (W : WX) (e : Expr) (m : M U) : Prop :=
  ∃ t, PE X e t ∧ ∀ ρ s σ H Q, Rl (gx X) ρ s σ H → OkV X W ρ σ H (m s) Q → t σ H Q
/-- a test -/
def ST (X : Cx) (W : WX) (e : Expr) (m : M Bool) : Prop :=
  ∃ t, PT X e t ∧ ∀ ρ s σ H Q, Rl (gx X) ρ s σ H → OkB X W ρ σ H (m s) Q → t σ H Q
def STw (X : Cx) (W : WX) (e : Expr) (m : M Bool) : Prop :=
  ∃ t, PW X e t ∧ ∀ ρ s σ H Q, Rl (gx X) ρ s σ H → OkB X W ρ σ H (m s) Q → t σ H Q
/-- arguments -/
def SA (X : Cx) (W : WX) (es : List Expr) (m : M (List U)) : Prop :=
  (∃ t, PA X es t ∧ ∀ ρ s σ H Q, Rl (gx X) ρ s σ H → OkA X W ρ σ H (m s) Q → t σ H Q) ∧ ∀ s us s', m s = .ok us s' → us.length = es.length

section
variable {α β γ δ : Type} {X : Cx} {W : WX} {R1 : Rho → Hp → α → β → Prop} {R2 : Rho → Hp → γ → δ → Prop}
/-- the first part of a bind -/
theorem Ok.bd {m : M α} {f : α → M γ} {ρ : Rho} {s : MS} {σ : L2.St} {H : Hp} {Q : δ → Hp → Prop} {P : β → Hp → Prop} (h : Ok X W R2 ρ σ H (bd m f s) Q)
    (k : ∀ u s' ρ' H' v, m s = .ok u s' → Ext (gx X) ρ H ρ' H' → Rl (gx X) ρ' s' σ H' → R1 ρ' H' u v → Ok X W R2 ρ' σ H' (f u s') Q → P v H') : Ok X W R1 ρ σ H (m s) P := by
  have h : Ok X W R2 ρ σ H (match m s with | .ok a s' => f a s' | .err x s' => .err x s' | .stuck => .stuck) Q := h
  cases q : m s with
  | ok u s' =>
    rw [q] at h
    intro ρ' H' v x R1 r
    refine k u s' ρ' H' v q x R1 r ?_
    have h : Ok X W R2 ρ σ H (f u s') Q := h
    cases q2 : f u s' with
    | ok u2 s2 => rw [q2] at h; exact fun ρ2 H2 v2 x2 R2 r2 => h ρ2 H2 v2 (x.trans x2) R2 r2
    | err y s2 => rw [q2] at h; exact fun ρ2 H2 c2 d2 x2 R2 r2 => h ρ2 H2 c2 d2 (x.trans x2) R2 r2
    | stuck => rw [q2] at h; exact h
  | err y s' => rw [q] at h; exact h
  | stuck => rw [q] at h; exact h.elim
theorem Ok.ret {u : α} {v : β} {ρ : Rho} {s : MS} {σ : L2.St} {H : Hp} {Q : β → Hp → Prop} (h : Ok X W R1 ρ σ H (ret u s) Q) (R : Rl (gx X) ρ s σ H) (r : R1 ρ H u v) : Q v H := h ρ H v Ext.refl R r
/-- .. in a later state -/
theorem Ok.ret' {u : α} {v : β} {ρ ρ' : Rho} {s : MS} {σ : L2.St} {H H' : Hp} {Q : β → Hp → Prop} (h : Ok X W R1 ρ σ H (Mi.ret u s) Q) (x : Ext (gx X) ρ H ρ' H') (R : Rl (gx X) ρ' s σ H') (r : R1 ρ' H' u v) : Q v H' := h ρ' H' v x R r
theorem Ok.when {b : Bool} {m : M α} {ρ : Rho} {s : MS} {σ : L2.St} {H : Hp} {Q : β → Hp → Prop} (h : Ok X W R1 ρ σ H (when b m s) Q) : b = true ∧ Ok X W R1 ρ σ H (m s) Q := by
  have h : Ok X W R1 ρ σ H (if b = true then m s else .stuck) Q := h
  by_cases e : b = true
  · rw [if_pos e] at h; exact ⟨e, h⟩
  · rw [if_neg e] at h; exact h.elim
end
end Mi

/-! Mini C: expressions: names, constants, operators, comparisons, tests, displays, arguments. -/
namespace Mi
open PySem PySem.Spec PyProof.Rows L2

/-- one owner less -/
def Rho.free (ρ : Rho) (i : Nat) : Rho := { ρ with os := fun j => if j = i then none else ρ.os j }
section
variable {G : Gx} {t : Option Addr} {ρ ρ' : Rho} {s s' : MS} {σ σ' : L2.St} {H H' : Hp} {a p : Addr} {o : HO} {u : U} {v : V}
theorem free_at {ow : Owner} {i : Nat} (h : (ρ.free i).At ow a) : ρ.At ow a ∧ ow ≠ .s i := by
  cases h with
  | @s j a h =>
    have h : (if j = i then none else ρ.os j) = some a := h
    by_cases e : j = i
    · rw [if_pos e] at h; cases h
    · rw [if_neg e] at h; exact ⟨.s h, fun z => e (Owner.s.inj z)⟩
  | j h => exact ⟨.j h, fun z => nomatch z⟩
  | t h => exact ⟨.t h, fun z => nomatch z⟩
  | z h => exact ⟨.z h, fun z => nomatch z⟩
theorem free_wr {i : Nat} (h : (ρ.free i).wr a) : ρ.wr a := by
  obtain ⟨o, h⟩ := Rho.wr_iff.mp h
  exact (free_at h).1.wr
theorem free_ext {i : Nat} : Ext G ρ H (ρ.free i) H := ⟨Up.same (fun _ h => free_wr h) fun _ _ e => e, rfl, fun _ _ _ e _ => e⟩
theorem free_os {i j : Nat} (e : j ≠ i) : (ρ.free i).os j = ρ.os j := if_neg e
/-- slot i is set to a value (which nobody owns) -/
theorem RlT.set (R : RlT G t ρ s σ H) (i : Nat) (r : Rep G ρ H u v) : RlT G t (ρ.free i) { s with env := s.env.set i (.val u) } (σ.set i (some v)) H where
  len := by simp [R.len]
  val := fun j w e => by
    by_cases q : i = j
    · subst q
      by_cases l : i < s.env.length
      · rw [show ({ s with env := s.env.set i (.val u) } : MS).env = s.env.set i (.val u) from rfl, List.getElem?_set_self l] at e
        cases e
        exact ⟨v, List.getElem?_set_self (by rw [← R.len]; exact l), r.up free_ext.toUp⟩
      · rw [show ({ s with env := s.env.set i (.val u) } : MS).env = s.env.set i (.val u) from rfl, List.getElem?_eq_none (by simpa using l)] at e; cases e
    · rw [show ({ s with env := s.env.set i (.val u) } : MS).env = s.env.set i (.val u) from rfl, List.getElem?_set_ne q] at e
      obtain ⟨z, h1, h2⟩ := R.val j w e
      exact ⟨z, by rw [List.getElem?_set_ne q]; exact h1, h2.up free_ext.toUp⟩
  own := fun j w e => by
    by_cases q : i = j
    · subst q
      by_cases l : i < s.env.length
      · rw [show ({ s with env := s.env.set i (.val u) } : MS).env = s.env.set i (.val u) from rfl, List.getElem?_set_self l] at e
        cases e
      · rw [show ({ s with env := s.env.set i (.val u) } : MS).env = s.env.set i (.val u) from rfl, List.getElem?_eq_none (by simpa using l)] at e; cases e
    · rw [show ({ s with env := s.env.set i (.val u) } : MS).env = s.env.set i (.val u) from rfl, List.getElem?_set_ne q] at e
      obtain ⟨a, h1, h2, h3⟩ := R.own j w e
      exact ⟨a, by rw [List.getElem?_set_ne q]; exact h1, by rw [free_os (Ne.symm q)]; exact h2, h3.up free_ext.toUp fun _ e => e⟩
  os := fun j a e => by
    have ⟨h, n⟩ := free_at (ow := .s j) (.s e)
    have q : i ≠ j := fun z => n (by rw [z])
    cases h with
    | s h =>
      obtain ⟨w, z⟩ := R.os j a h
      exact ⟨w, by rw [show ({ s with env := s.env.set i (.val u) } : MS).env = s.env.set i (.val u) from rfl, List.getElem?_set_ne q]; exact z⟩
  sto := fun j w e => let ⟨a, h, r⟩ := R.sto j w e; ⟨a, h, r.up free_ext.toUp fun _ e => e⟩
  ss := R.ss
  dj := fun o o' a h h' => R.dj o o' a (free_at h).1 (free_at h').1
  occ := fun a w => R.occ a (free_wr w)
  tm := R.tm
/-- the object of slot i is handed on: it never changes again -/
theorem RlT.freeze (R : RlT G t ρ s σ H) {i : Nat} (e : s.env[i]? = some (Sl.own u)) : ∃ v, σ[i]? = some (some v) ∧ RlT G t (ρ.free i) { s with env := s.env.set i (.val u) } σ H ∧ Rep G (ρ.free i) H u v := by
  obtain ⟨a, h1, h2, h3⟩ := R.own i u e
  have nw : ¬ (ρ.free i).wr a := fun w => by
    obtain ⟨o, h⟩ := Rho.wr_iff.mp w
    obtain ⟨h, n⟩ := free_at h
    exact n (R.dj _ _ a h (.s h2))
  have r : Rep G (ρ.free i) H u (.ref a) := (h3.up free_ext.toUp fun _ e => e).rep nw
  refine ⟨_, h1, ?_, r⟩
  have es : σ.set i (some (.ref a)) = σ := by
    obtain ⟨l, q⟩ := List.getElem?_eq_some_iff.mp h1
    rw [← q]; exact List.set_getElem_self l
  -- as RlT.set, with the same slots
  refine ⟨by simp [R.len], fun j w q => ?_, fun j w q => ?_, fun j b q => ?_, fun j w q => let ⟨b, h, r⟩ := R.sto j w q; ⟨b, h, r.up free_ext.toUp fun _ e => e⟩, R.ss, fun o o' b h h' => R.dj o o' b (free_at h).1 (free_at h').1,
    fun b w => R.occ b (free_wr w), R.tm⟩
  · by_cases z : i = j
    · subst z
      rw [show ({ s with env := s.env.set i (.val u) } : MS).env = s.env.set i (.val u) from rfl, List.getElem?_set_self (List.getElem?_eq_some_iff.mp e).1] at q
      cases q
      exact ⟨_, h1, r⟩
    · rw [show ({ s with env := s.env.set i (.val u) } : MS).env = s.env.set i (.val u) from rfl, List.getElem?_set_ne z] at q
      obtain ⟨y, k1, k2⟩ := R.val j w q
      exact ⟨y, k1, k2.up free_ext.toUp⟩
  · by_cases z : i = j
    · subst z
      rw [show ({ s with env := s.env.set i (.val u) } : MS).env = s.env.set i (.val u) from rfl, List.getElem?_set_self (List.getElem?_eq_some_iff.mp e).1] at q
      cases q
    · rw [show ({ s with env := s.env.set i (.val u) } : MS).env = s.env.set i (.val u) from rfl, List.getElem?_set_ne z] at q
      obtain ⟨b, k1, k2, k3⟩ := R.own j w q
      exact ⟨b, k1, by rw [free_os (Ne.symm z)]; exact k2, k3.up free_ext.toUp fun _ e => e⟩
  · have ⟨h, n⟩ := free_at (ow := .s j) (.s q)
    have z : i ≠ j := fun y => n (by rw [y])
    cases h with
    | s h =>
      obtain ⟨w, y⟩ := R.os j b h
      exact ⟨w, by rw [show ({ s with env := s.env.set i (.val u) } : MS).env = s.env.set i (.val u) from rfl, List.getElem?_set_ne z]; exact y⟩
end

/-! ### reading names -/
/-- borrowed: an owned object is told by its slot -/
def rd (i : Nat) : M U := fun s => match s.env[i]? with
  | some (.val u) => .ok u s
  | some (.own _) => .ok (.slot i) s
  | _ => .stuck
/-- taken: an owned object is frozen -/
def rv (i : Nat) : M U := fun s => match s.env[i]? with
  | some (.val u) => .ok u s
  | some (.own u) => .ok u { s with env := s.env.set i (.val u) }
  | _ => .stuck
/-- the content now -/
def ct (u : U) : M U := fun s => match cont s u with
  | some u' => .ok u' s
  | none => .stuck
def bin (op : U → U → M U) (ma mb : M U) : M U := bd ma fun x => bd mb fun y => bd (ct x) fun x' => bd (ct y) fun y' => op x' y'
def un (op : U → M U) (ma : M U) : M U := bd ma fun x => bd (ct x) fun x' => op x'
def asB : U → M Bool
  | .bl b => ret b
  | _ => stk

section
variable {X : Cx} {W : WX} {e a b c : Expr} {m ma mb mc : M U} {pos : Pos}
theorem SE.up (h : SE X W e m) : SE0 X W e m := by
  obtain ⟨t, p, h⟩ := h
  refine ⟨t, p, fun ρ s σ H Q R k => h ρ s σ H Q R ?_⟩
  revert k
  show OkE X W ρ σ H (m s) Q → OkV X W ρ σ H (m s) Q
  cases m s with
  | ok u s' => exact fun k ρ' H' v x R r => k ρ' H' v x R r.e
  | err y s' => exact fun k => k
  | stuck => exact fun k => k
theorem se0_name {i : Nat} {x : Str} (hN : X.N[i]? = some x) (hv : Vis X.env.scope x) (hd : (x == ("__debug__" : Str)) = false := by decide) (hcd : (x == ("__classdict__" : Str)) = false := by decide) : SE0 X W (.Name x pos) (rd i) := by
  refine ⟨_, pe_var hN hv hd hcd, fun ρ s σ H Q R h => ?_⟩
  have h : OkE X W ρ σ H (match s.env[i]? with | some (.val u) => .ok u s | some (.own _) => .ok (.slot i) s | _ => .stuck) Q := h
  cases q : s.env[i]? with
  | none => rw [q] at h; exact h.elim
  | some y =>
    rw [q] at h
    cases y with
    | no => exact h.elim
    | val u =>
      obtain ⟨v, h1, h2⟩ := R.val i u q
      exact ⟨v, h1, h ρ H v Ext.refl R h2.e⟩
    | own u =>
      obtain ⟨b, h1, h2, h3⟩ := R.own i u q
      exact ⟨_, h1, h ρ H _ Ext.refl R h1⟩
theorem se_name {i : Nat} {x : Str} (hN : X.N[i]? = some x) (hv : Vis X.env.scope x) (hd : (x == ("__debug__" : Str)) = false := by decide) (hcd : (x == ("__classdict__" : Str)) = false := by decide) : SE X W (.Name x pos) (rv i) := by
  refine ⟨_, pe_var hN hv hd hcd, fun ρ s σ H Q R h => ?_⟩
  have h : OkV X W ρ σ H (match s.env[i]? with | some (.val u) => .ok u s | some (.own u) => .ok u { s with env := s.env.set i (.val u) } | _ => .stuck) Q := h
  cases q : s.env[i]? with
  | none => rw [q] at h; exact h.elim
  | some y =>
    rw [q] at h
    cases y with
    | no => exact h.elim
    | val u =>
      obtain ⟨v, h1, h2⟩ := R.val i u q
      exact ⟨v, h1, h ρ H v Ext.refl R h2⟩
    | own u =>
      obtain ⟨v, h1, h2, h3⟩ := R.freeze q
      exact ⟨v, h1, h _ H v free_ext h2 h3⟩
theorem se_int {i j} : SE X W (.Constant (.int i) j pos) (ret (.int i)) := ⟨_, pe_int, fun _ _ _ _ _ R h => h.ret R .int⟩
theorem se_bl {i j} : SE X W (.Constant (.bool i) j pos) (ret (.bl i)) := ⟨_, pe_bl, fun _ _ _ _ _ R h => h.ret R .bl⟩
theorem se_str {i j} : SE X W (.Constant (.str i) j pos) (ret (.str i)) := ⟨_, pe_str, fun _ _ _ _ _ R h => h.ret R .str⟩
theorem se_non {j} : SE X W (.Constant .none j pos) (ret .non) := ⟨_, pe_non, fun _ _ _ _ _ R h => h.ret R .non⟩
/-- a module's constant -/
theorem se_glob {x : Str} {v : V} {u : U} {w : Value} (hg : Gl X x) (hm : X.mg x = some w) (r : RelV v w) (hu : ∀ ρ s σ H, Rl (gx X) ρ s σ H → Rep (gx X) ρ H u v) (hd : (x == ("__debug__" : Str)) = false := by decide) : SE X W (.Name x pos) (ret u) :=
  ⟨_, pe_glob hg hm r hd, fun ρ s σ H _ R h => h.ret R (hu ρ s σ H R)⟩

/-! ### operators -/
/-- a rule by values bears g -/
def Bears (X : Cx) (W : WX) (r : R2) (g : U → U → M U) : Prop :=
  ∀ ρ s σ H x y v w Q, Rl (gx X) ρ s σ H → Con (gx X) ρ H x v → Con (gx X) ρ H y w → OkV X W ρ σ H (g x y s) Q → r v w H Q
theorem ct_con {ρ : Rho} {s : MS} {σ : L2.St} {H : Hp} {u : U} {v : V} {α β : Type} {R2 : Rho → Hp → α → β → Prop} {f : U → M α} {Q : β → Hp → Prop} (R : Rl (gx X) ρ s σ H) (r : RepE (gx X) ρ σ H u v) (h : Ok X W R2 ρ σ H (bd (ct u) f s) Q) :
    ∃ u', Con (gx X) ρ H u' v ∧ Ok X W R2 ρ σ H (f u' s) Q := by
  cases q : cont s u with
  | none =>
    have e : bd (ct u) f s = .stuck := by unfold bd ct; rw [q]
    rw [e] at h; exact h.elim
  | some u' =>
    have e : bd (ct u) f s = f u' s := by unfold bd ct; rw [q]
    rw [e] at h; exact ⟨u', cont_ok R r q, h⟩
theorem bin_run {r : R2} {g : U → U → M U} (hg : Bears X W r g) {ta tb : TE} (ha : ∀ ρ s σ H Q, Rl (gx X) ρ s σ H → OkE X W ρ σ H (ma s) Q → ta σ H Q) (hb : ∀ ρ s σ H Q, Rl (gx X) ρ s σ H → OkE X W ρ σ H (mb s) Q → tb σ H Q)
    {ρ : Rho} {s : MS} {σ : L2.St} {H : Hp} {Q : VK} (R : Rl (gx X) ρ s σ H) (h : OkV X W ρ σ H (bin g ma mb s) Q) : tOp r ta tb σ H Q := by
  refine ha ρ s σ H _ R (h.bd fun u s1 ρ1 H1 v _ x1 R1 r1 h1 => ?_)
  refine hb ρ1 s1 σ H1 _ R1 (h1.bd fun w s2 ρ2 H2 z _ x2 R2 r2 h2 => ?_)
  obtain ⟨u', c1, h3⟩ := ct_con R2 (r1.up x2.toUp) h2
  obtain ⟨w', c2, h4⟩ := ct_con R2 r2 h3
  exact hg ρ2 s2 σ H2 u' w' v z Q R2 c1 c2 h4
theorem se_bin {op : Operator} {r : R2} {g : U → U → M U} (ho : OpR X (binaryOp op) r) (hg : Bears X W r g) (ha : SE0 X W a ma) (hb : SE0 X W b mb) : SE X W (.BinOp a op b pos) (bin g ma mb) := by
  obtain ⟨ta, pa, ha⟩ := ha
  obtain ⟨tb, pb, hb⟩ := hb
  exact ⟨_, pe_op ho pa pb, fun ρ s σ H Q R h => bin_run hg ha hb R h⟩
theorem se_cmp {op : CmpOp} {r : R2} {g : U → U → M U} (ho : OpR X (compareOp op) r) (hg : Bears X W r g) (hm : behindInMarks op b = false) (ha : SE0 X W a ma) (hb : SE0 X W b mb) : SE X W (.Compare a [op] [b] pos) (bin g ma mb) := by
  obtain ⟨ta, pa, ha⟩ := ha
  obtain ⟨tb, pb, hb⟩ := hb
  exact ⟨_, pe_cmpR ho pa pb hm, fun ρ s σ H Q R h => bin_run hg ha hb R h⟩
theorem st_cmp {op : CmpOp} {r : R2} {g : U → U → M U} (ho : OpR X (compareOp op) r) (hg : Bears X W r g) (hm : behindInMarks op b = false) (ha : SE0 X W a ma) (hb : SE0 X W b mb) : ST X W (.Compare a [op] [b] pos) (bd (bin g ma mb) asB) := by
  obtain ⟨ta, pa, ha⟩ := ha
  obtain ⟨tb, pb, hb⟩ := hb
  refine ⟨_, pt_cmpR ho pa pb hm, fun ρ s σ H Q R h => ?_⟩
  refine bin_run (Q := fun x H' => ∃ k, x = .bl k ∧ Q k H') hg ha hb R (h.bd fun u s1 ρ1 H1 v _ x1 R1 r1 h1 => ?_)
  cases r1 with
  | bl => exact ⟨_, rfl, h1.ret R1 rfl⟩
  | _ => exact h1.elim
theorem se_un {op : UnaryOp} {r : V → Hp → VK → Prop} {g : U → M U} (ho : UnR X (unaryOp op) r) (hg : ∀ ρ s σ H x v Q, Rl (gx X) ρ s σ H → Con (gx X) ρ H x v → OkV X W ρ σ H (g x s) Q → r v H Q) (ha : SE0 X W a ma) : SE X W (.UnaryOp op a pos) (un g ma) := by
  obtain ⟨ta, pa, ha⟩ := ha
  refine ⟨_, pe_un ho pa, fun ρ s σ H Q R h => ?_⟩
  refine ha ρ s σ H _ R (h.bd fun u s1 ρ1 H1 v _ x1 R1 r1 h1 => ?_)
  obtain ⟨u', c1, h2⟩ := ct_con R1 r1 h1
  exact hg ρ1 s1 σ H1 u' v Q R1 c1 h2

/-! ### tests -/
theorem st_val (h : SE X W e m) (he : ∀ whole, isTrue e X.env whole = (do let v ← whole; standAt e.pos; holding [v] (truthy v)) := by intro _; rfl) : ST X W e (bd m asB) := by
  obtain ⟨t, p, h⟩ := h
  refine ⟨_, pt_val p he, fun ρ s σ H Q R k => ?_⟩
  refine h ρ s σ H _ R (k.bd fun u s1 ρ1 H1 v _ x1 R1 r1 h1 => ?_)
  cases r1 with
  | bl => exact ⟨_, rfl, h1.ret R1 rfl⟩
  | _ => exact h1.elim
/-- the truth of a content -/
def tru : U → M Bool
  | .non => ret false
  | .bl b => ret b
  | .int i => ret (i != 0)
  | .str y => when (decide (y.length ≤ sizeLine)) (ret ((y.length : Int) != 0))
  | .lst us => ret (!us.isEmpty)
  | .tup us => ret (!us.isEmpty)
  | .dK us => ret (!us.isEmpty)
  | _ => stk
theorem isEmpty_reps {G : Gx} {ρ : Rho} {H : Hp} {us : List U} {vs : List V} (r : Reps G ρ H us vs) : (!us.isEmpty) = !vs.isEmpty := by cases r <;> rfl
theorem isEmpty_repd {G : Gx} {ρ : Rho} {H : Hp} {us : List (Key × U)} {vs : List (Key × V)} (r : RepD G ρ H us vs) : (!us.isEmpty) = !vs.isEmpty := by cases r <;> rfl
/-- the truth of a dict, locked or not -/
theorem tru_d : TruR X (fun x H Q => (∃ k, TruV X.K x H k ∧ Q k H) ∨ ∃ d kvs, x = .ref d ∧ Rd H d (.dK kvs) ∧ Q (!kvs.isEmpty) H) := by
  intro pins s σ H x v Q I rx h
  rcases h with h | ⟨d, kvs, rfl, e, q⟩
  · exact tru_ok pins s σ H x v Q I rx h
  · cases rx
    have hl := line63
    have hs : sizeLine = 16777216 := sizeLine_eq
    obtain ⟨hz, hS, vs, r, m⟩ := dk_rd I.hok e
    have hlen : kvs.length = vs.length := Paired.length r
    exact wpAny_truthy_dict hS m (by omega) ⟨H, I.tok _, by rw [isEmpty_kv r]; exact q⟩
theorem pt_truthR {r : V → Hp → (Bool → Hp → Prop) → Prop} {ta : TE} (ho : TruR X r) (ha : PE X a ta) (he : ∀ whole, isTrue a X.env whole = (do let v ← whole; standAt a.pos; holding [v] (truthy v))) : PT X a (fun σ H Q => ta σ H fun x H' => r x H' Q) := by
  refine ⟨fun pins s σ H Q I h => ?_⟩
  exact isTrue_plain (thn (ha.run pins s σ H _ I h) fun v s1 ⟨x, H1, I1, r1, q1⟩ => ho pins s1 σ H1 x v Q I1 r1 q1) (he _)
theorem st_tru (h : SE0 X W e m) (he : ∀ whole, isTrue e X.env whole = (do let v ← whole; standAt e.pos; holding [v] (truthy v))) : ST X W e (bd m fun u => bd (ct u) tru) := by
  obtain ⟨t, p, h⟩ := h
  refine ⟨_, pt_truthR tru_d p he, fun ρ s σ H Q R k => ?_⟩
  refine h ρ s σ H _ R (k.bd fun u s1 ρ1 H1 v _ x1 R1 r1 h1 => ?_)
  obtain ⟨u', c1, h2⟩ := ct_con R1 r1 h1
  cases u' with
  | non => cases c1.non; exact .inl ⟨_, rfl, h2.ret R1 rfl⟩
  | bl b => cases c1.bl; exact .inl ⟨_, rfl, h2.ret R1 rfl⟩
  | int i => cases c1.int; exact .inl ⟨_, rfl, h2.ret R1 rfl⟩
  | str y =>
    cases c1.str
    obtain ⟨e1, h3⟩ := Ok.when h2
    exact .inl ⟨_, ⟨of_decide_eq_true e1, rfl⟩, h3.ret R1 rfl⟩
  | lst us => obtain ⟨a, vs, rfl, q, r⟩ := c1.lst; exact .inl ⟨_, .inl ⟨vs, .of q, rfl⟩, h2.ret R1 (isEmpty_reps r)⟩
  | tup us => obtain ⟨a, vs, rfl, q, r⟩ := c1.tup; exact .inl ⟨_, .inr (.inl ⟨vs, q, rfl⟩), h2.ret R1 (isEmpty_reps r)⟩
  | dK us => obtain ⟨a, vs, rfl, q, r⟩ := c1.dK; exact .inr ⟨a, vs, rfl, q, h2.ret R1 (isEmpty_repd r)⟩
  | _ => exact h2.elim
end
end Mi

/-! Mini D: arguments, displays, subscripts, calls of built-ins and of own defs; operators by kinds of values. -/
namespace Mi
open PySem PySem.Spec PyProof.Rows L2

section
variable {X : Cx} {W : WX} {e a b c o : Expr} {es : List Expr} {m ma mb mc : M U} {ms : M (List U)} {pos : Pos}

/-! ### arguments -/
theorem sa_nil : SA X W [] (ret []) := ⟨⟨_, pa_nil, fun ρ s σ H Q R h => h.ret R .nil⟩, fun s us s' e => by cases e; rfl⟩
def mcons (m : M U) (ms : M (List U)) : M (List U) := bd m fun u => bd ms fun us => ret (u :: us)
theorem sa_cons (ha : SE X W e m) (hr : SA X W es ms) (hs : starEach (e :: es) X.env = (false, eval e X.env) :: starEach es X.env := by rfl) : SA X W (e :: es) (mcons m ms) := by
  obtain ⟨ta, pa, ha⟩ := ha
  obtain ⟨⟨tr, pr, hr⟩, hl⟩ := hr
  refine ⟨⟨_, pa_cons pa pr hs, fun ρ s σ H Q R h => ?_⟩, fun s us s' q => ?_⟩
  · refine ha ρ s σ H _ R (h.bd fun u s1 ρ1 H1 v _ x1 R1 r1 h1 => ?_)
    refine hr ρ1 s1 σ H1 _ R1 (h1.bd fun us s2 ρ2 H2 vs _ x2 R2 r2 h2 => ?_)
    exact h2.ret R2 (.cons (r1.up x2.toUp) r2)
  · unfold mcons bd ret at q
    cases q1 : m s with
    | ok u s1 =>
      rw [q1] at q; dsimp only at q
      cases q2 : ms s1 with
      | ok us2 s2 => rw [q2] at q; cases q; exact congrArg (· + 1) (hl s1 us2 _ q2)
      | err => rw [q2] at q; cases q
      | stuck => rw [q2] at q; cases q
    | err => rw [q1] at q; cases q
    | stuck => rw [q1] at q; cases q
/-- borrowed arguments -/
def SA0 (X : Cx) (W : WX) (es : List Expr) (m : M (List U)) : Prop :=
  ∃ t, PA X es t ∧ ∀ ρ s σ H Q, Rl (gx X) ρ s σ H → Ok X W (fun ρ' H' us vs => Paired (fun u v => RepE (gx X) ρ' σ H' u v) us vs) ρ σ H (m s) Q → t σ H Q
theorem sa0_nil : SA0 X W [] (ret []) := ⟨_, pa_nil, fun ρ s σ H Q R h => h.ret R .nil⟩
theorem paired_up {ρ ρ' : Rho} {σ : L2.St} {H H' : Hp} (x : Up (gx X) ρ H ρ' H') : ∀ {us : List U} {vs : List V}, Paired (fun u v => RepE (gx X) ρ σ H u v) us vs → Paired (fun u v => RepE (gx X) ρ' σ H' u v) us vs
  | _, _, .nil => .nil
  | _, _, .cons h r => .cons (h.up x) (paired_up x r)
theorem sa0_cons (ha : SE0 X W e m) (hr : SA0 X W es ms) (hs : starEach (e :: es) X.env = (false, eval e X.env) :: starEach es X.env := by rfl) : SA0 X W (e :: es) (mcons m ms) := by
  obtain ⟨ta, pa, ha⟩ := ha
  obtain ⟨tr, pr, hr⟩ := hr
  refine ⟨_, pa_cons pa pr hs, fun ρ s σ H Q R h => ?_⟩
  refine ha ρ s σ H _ R (h.bd fun u s1 ρ1 H1 v _ x1 R1 r1 h1 => ?_)
  refine hr ρ1 s1 σ H1 _ R1 (h1.bd fun us s2 ρ2 H2 vs _ x2 R2 r2 h2 => ?_)
  exact h2.ret R2 (.cons (r1.up x2.toUp) r2)
def cts : List U → M (List U)
  | [] => ret []
  | u :: us => mcons (ct u) (cts us)
theorem cts_con {ρ : Rho} {s : MS} {σ : L2.St} {H : Hp} {α β : Type} {R2 : Rho → Hp → α → β → Prop} (R : Rl (gx X) ρ s σ H) : ∀ {us : List U} {vs : List V} {f : List U → M α} {Q : β → Hp → Prop}, Paired (fun u v => RepE (gx X) ρ σ H u v) us vs → Ok X W R2 ρ σ H (bd (cts us) f s) Q →
    ∃ us', Paired (Con (gx X) ρ H) us' vs ∧ Ok X W R2 ρ σ H (f us' s) Q
  | _, _, f, Q, .nil, h => ⟨[], .nil, h⟩
  | u :: us, v :: vs, f, Q, .cons h r, k => by
    have k' : Ok X W R2 ρ σ H (bd (ct u) (fun u' => bd (cts us) fun us' => f (u' :: us')) s) Q := by
      have e : bd (cts (u :: us)) f s = bd (ct u) (fun u' => bd (cts us) fun us' => f (u' :: us')) s := by
        show bd (mcons (ct u) (cts us)) f s = _
        unfold mcons bd ret
        cases ct u s with
        | ok u' s' =>
          dsimp only
          cases cts us s' <;> rfl
        | err => rfl
        | stuck => rfl
      rw [← e]; exact k
    obtain ⟨u', c1, k1⟩ := ct_con R h k'
    obtain ⟨us', c2, k2⟩ := cts_con R r k1
    exact ⟨u' :: us', .cons c1 c2, k2⟩

/-! ### new objects -/
theorem ok_new {ρ : Rho} {s : MS} {σ : L2.St} {H : Hp} {Q : VK} {u : U} {p : Addr} {ob : HO} (h : OkV X W ρ σ H (ret u s) Q) (R : Rl (gx X) ρ s σ H) (hp : H p = none)
    (r : ∀ n : ¬ ρ.wr p, Up (gx X) ρ H ρ (upd H p ob) → upd H p ob p = some ob → Rep (gx X) ρ (upd H p ob) u (.ref p)) : Q (.ref p) (upd H p ob) :=
  h ρ (upd H p ob) (.ref p) (R.laidExt hp) (R.laid hp) (r (R.fresh hp) (R.laidUp hp) upd_same)
def mkT (us : List U) : M U := when (decide (us.length ≤ sizeLine)) (ret (.tup us))
def mkL (us : List U) : M U := when (decide (us.length ≤ sizeLine)) (ret (.lst us))
theorem new_tup {ρ : Rho} {s : MS} {σ : L2.St} {H : Hp} {Q : VK} {us : List U} {vs : List V} (h : OkV X W ρ σ H (ret (.tup us) s) Q) (R : Rl (gx X) ρ s σ H) (r : Reps (gx X) ρ H us vs) (p : Addr) (hp : H p = none) : Q (.ref p) (upd H p (.tup vs)) :=
  ok_new h R hp fun n x e => .tup (.of e n) (r.up x)
theorem new_lst {ρ : Rho} {s : MS} {σ : L2.St} {H : Hp} {Q : VK} {us : List U} {vs : List V} (h : OkV X W ρ σ H (ret (.lst us) s) Q) (R : Rl (gx X) ρ s σ H) (r : Reps (gx X) ρ H us vs) (p : Addr) (hp : H p = none) : Q (.ref p) (upd H p (.lst vs)) :=
  ok_new h R hp fun n x e => .lst (.of e n) (r.up x)
theorem se_tup {x1} (h : SA X W es ms) : SE X W (.Tuple es x1 pos) (bd ms mkT) := by
  obtain ⟨⟨t, p, h⟩, _⟩ := h
  refine ⟨_, pe_tup p, fun ρ s σ H Q R k => ?_⟩
  refine h ρ s σ H _ R (k.bd fun us s1 ρ1 H1 vs _ x1 R1 r1 h1 => ?_)
  obtain ⟨e, h2⟩ := h1.when
  exact ⟨by rw [← r1.length]; exact of_decide_eq_true e, new_tup h2 R1 r1⟩
theorem se_lst (h : SA X W es ms) : SE X W (.List es pos) (bd ms mkL) := by
  obtain ⟨⟨t, p, h⟩, _⟩ := h
  refine ⟨_, pe_lst p, fun ρ s σ H Q R k => ?_⟩
  refine h ρ s σ H _ R (k.bd fun us s1 ρ1 H1 vs _ x1 R1 r1 h1 => ?_)
  obtain ⟨e, h2⟩ := h1.when
  exact ⟨by rw [← r1.length]; exact of_decide_eq_true e, new_lst h2 R1 r1⟩

/-! ### items -/
def ofO : Option U → M U
  | some u => ret u
  | none => stk
theorem Ok.ofO {β : Type} {R1 : Rho → Hp → U → β → Prop} {o : Option U} {ρ : Rho} {s : MS} {σ : L2.St} {H : Hp} {Q : β → Hp → Prop} (h : Ok X W R1 ρ σ H (ofO o s) Q) : ∃ u, o = some u ∧ Ok X W R1 ρ σ H (Mi.ret u s) Q := by
  cases o with
  | none => exact h.elim
  | some u => exact ⟨u, rfl, h⟩
def ixU : U → U → M U
  | .lst us, .int k => ofO (atI us k)
  | .tup us, .int k => ofO (atI us k)
  | .str x, .int k => when (decide (x.length ≤ sizeLine)) (ofO ((atI x.cps.toList k).map fun c => U.str ⟨#[c]⟩))
  | _, _ => stk
theorem Reps.atI {G : Gx} {ρ : Rho} {H : Hp} {us : List U} {vs : List V} {k : Int} {u : U} (r : Reps G ρ H us vs) (e : L2.atI us k = some u) : ∃ v, L2.atI vs k = some v ∧ Rep G ρ H u v := by
  unfold L2.atI at *
  rw [r.length] at e
  cases q : ixN vs.length k with
  | none => rw [q] at e; cases e
  | some j =>
    rw [q] at e
    obtain ⟨v, h1, h2⟩ := r.get (i := j) (u := u) e
    exact ⟨v, h1, h2⟩
theorem bears_ix : Bears X W (rIx X.K) ixU := by
  intro ρ s σ H x y v w Q R c1 c2 h
  unfold ixU at h
  split at h
  · rename_i us k
    cases c2.int
    obtain ⟨a, vs, rfl, q, r⟩ := c1.lst
    obtain ⟨u, e, h⟩ := h.ofO
    obtain ⟨z, e1, r1⟩ := r.atI e
    exact .inl ⟨a, vs, k, z, rfl, rfl, .of q, e1, h.ret R r1⟩
  · rename_i us k
    cases c2.int
    obtain ⟨a, vs, rfl, q, r⟩ := c1.tup
    obtain ⟨u, e, h⟩ := h.ofO
    obtain ⟨z, e1, r1⟩ := r.atI e
    exact .inr (.inl ⟨a, vs, k, z, rfl, rfl, q, e1, h.ret R r1⟩)
  · rename_i x k
    cases c1.str
    cases c2.int
    obtain ⟨e0, h⟩ := h.when
    obtain ⟨u, e, h⟩ := h.ofO
    obtain ⟨ch, e1, e2⟩ := Option.map_eq_some_iff.mp e
    subst e2
    exact .inr (.inr ⟨x, k, ch, rfl, rfl, of_decide_eq_true e0, e1, h.ret R .str⟩)
  · exact h.elim
theorem se_ix (ha : SE0 X W a ma) (hb : SE0 X W b mb) (hs : PlainIx b) : SE X W (.Subscript a b pos) (bin ixU ma mb) := by
  obtain ⟨ta, pa, ha⟩ := ha
  obtain ⟨tb, pb, hb⟩ := hb
  exact ⟨_, pe_ix ix_seq pa pb hs, fun ρ s σ H Q R h => bin_run bears_ix ha hb R h⟩

/-! ### calls of built-ins -/
def BearsA (X : Cx) (W : WX) (r : List V → Hp → VK → Prop) (g : List U → M U) : Prop :=
  ∀ ρ s σ H us vs Q, Rl (gx X) ρ s σ H → Paired (Con (gx X) ρ H) us vs → OkV X W ρ σ H (g us s) Q → r vs H Q
def callB (g : List U → M U) (ms : M (List U)) : M U := bd ms fun us => bd (cts us) g
theorem callB_run {r : List V → Hp → VK → Prop} {g : List U → M U} {t : TA} (hg : BearsA X W r g) (h : ∀ ρ s σ H Q, Rl (gx X) ρ s σ H → Ok X W (fun ρ' H' us vs => Paired (fun u v => RepE (gx X) ρ' σ H' u v) us vs) ρ σ H (ms s) Q → t σ H Q)
    {ρ : Rho} {s : MS} {σ : L2.St} {H : Hp} {Q : VK} (R : Rl (gx X) ρ s σ H) (k : OkV X W ρ σ H (callB g ms s) Q) : tCB r t σ H Q := by
  refine h ρ s σ H _ R (k.bd fun us s1 ρ1 H1 vs _ x1 R1 r1 h1 => ?_)
  obtain ⟨us', c, h2⟩ := cts_con R1 r1 h1
  exact hg ρ1 s1 σ H1 us' vs Q R1 c h2
theorem se_callB {x : Str} {p : Pos} {id : String} {r : List V → Hp → VK → Prop} {g : List U → M U} (hc : CallR X (.builtin id) r) (hg : BearsA X W r g) (hgl : Gl X x) (hm : X.mg x = none) (hv : bootBuiltins x = some (.builtin id)) (h : SA0 X W (e :: es) ms)
    (hn : x ≠ "__name__" := by decide) (hdb : (x == ("__debug__" : Str)) = false := by decide)
    (he : starEach (e :: es) X.env = (false, eval e X.env) :: starEach es X.env := by rfl) (hpl : (backTo pos (starEach es X.env)).any (·.1) = false := by rfl) : SE X W (.Call (.Name x p) (e :: es) [] pos) (callB g ms) := by
  obtain ⟨t, pa, h⟩ := h
  exact ⟨_, pe_callB hc hgl hm hv pa hn hdb he hpl, fun ρ s σ H Q R k => callB_run hg h R k⟩
theorem se_callTy {x : Str} {p : Pos} {T : String} {r : List V → Hp → VK → Prop} {g : List U → M U} (hc : CallR X (.type T) r) (hg : BearsA X W r g) (hgl : Gl X x) (hm : X.mg x = none) (hv : bootBuiltins x = some (.type T)) (h : SA0 X W (e :: es) ms)
    (hn : x ≠ "__name__" := by decide) (hdb : (x == ("__debug__" : Str)) = false := by decide)
    (he : starEach (e :: es) X.env = (false, eval e X.env) :: starEach es X.env := by rfl) (hpl : (backTo pos (starEach es X.env)).any (·.1) = false := by rfl) : SE X W (.Call (.Name x p) (e :: es) [] pos) (callB g ms) := by
  obtain ⟨t, pa, h⟩ := h
  exact ⟨_, pe_callTy hc hgl hm hv pa hn hdb he hpl, fun ρ s σ H Q R k => callB_run hg h R k⟩

/-! ### own defs -/
def OkF (G : Gx) (ρ : Rho) (H : Hp) (r : Res (List U) U) (Q : VK) (E : XK) : Prop := match r with
  | .ok u st => ∀ ρ' H' v, Ext G ρ H ρ' H' → Rl G ρ' ⟨[], st⟩ [] H' → Rep G ρ' H' u v → Q v H'
  | .err x st => ∀ ρ' H' cls d, Ext G ρ H ρ' H' → Rl G ρ' ⟨[], st⟩ [] H' → ExcRep G ρ' H' x cls d → E cls d H'
  | .stuck => False
/-- the promise of a def by its mirror -/
def spF (G : Gx) (n : Nat) (f : F) : Sp := fun vs H Q E => vs.length = n ∧ ∃ ρ st us, Rl G ρ ⟨[], st⟩ [] H ∧ Reps G ρ H us vs ∧ OkF G ρ H (f us st) Q E
def Rho.callee (ρ : Rho) : Rho := ⟨fun _ => none, ρ.ss, none, fun a => ρ.Z a ∨ ∃ i, ρ.os i = some a⟩
def Rho.back (ρ ρ' : Rho) : Rho := ⟨ρ.os, ρ'.ss, none, ρ.Z⟩
section
variable {G : Gx} {ρ ρ' : Rho} {s : MS} {σ : L2.St} {H H' : Hp} {st : List U}
theorem callee_wr (R : Rl G ρ s σ H) {a : Addr} : ρ.callee.wr a ↔ ρ.wr a := by
  have e : ρ.tm = none := R.tm
  unfold Rho.wr Rho.callee
  constructor
  · rintro (⟨i, h⟩ | h | h | h | h)
    · cases h
    · exact .inr (.inl h)
    · cases h
    · exact .inr (.inr (.inr h))
    · exact .inl h
  · rintro (h | h | h | h)
    · exact .inr (.inr (.inr (.inr h)))
    · exact .inr (.inl h)
    · rw [e] at h; cases h
    · exact .inr (.inr (.inr (.inl h)))
theorem callee_up (R : Rl G ρ s σ H) : Up G ρ H ρ.callee H := Up.same (fun _ h => (callee_wr R).mp h) fun _ _ e => e
theorem Rl.callee (R : Rl G ρ s σ H) : Rl G ρ.callee ⟨[], s.st⟩ [] H where
  len := rfl
  val := fun i u e => by simp at e
  own := fun i u e => by simp at e
  os := fun i a e => nomatch e
  sto := fun j u e => let ⟨a, h, r⟩ := R.sto j u e; ⟨a, h, r.up (callee_up R) fun _ e => e⟩
  ss := R.ss
  dj := fun o o' a h h' => by
    have k : ∀ {i}, ρ.callee.At (.j i) a → ρ.callee.At .z a → False := fun {i} h1 h2 => by
      cases h1 with
      | j h1 =>
        cases h2 with
        | z h2 =>
          rcases h2 with h2 | ⟨l, h2⟩
          · exact nomatch (R.dj _ _ a (.j h1) (.z h2))
          · exact nomatch (R.dj _ _ a (.j h1) (.s h2))
    cases h with
    | s h => cases h
    | t h => cases h
    | j h =>
      cases h' with
      | s h' => cases h'
      | t h' => cases h'
      | j h' => exact R.dj _ _ a (.j h) (.j h')
      | z h' => exact (k (.j h) (.z h')).elim
    | z h =>
      cases h' with
      | s h' => cases h'
      | t h' => cases h'
      | j h' => exact (k (.j h') (.z h)).elim
      | z h' => rfl
  occ := fun a w => let ⟨o, e, m⟩ := R.occ a ((callee_wr R).mp w); ⟨o, e, m.1, fun z => z.elim m.2 fun ⟨i, h⟩ => by
    obtain ⟨u, q⟩ := R.os i a h
    obtain ⟨a', _, h2, ow⟩ := R.own i u q
    rw [h] at h2; cases h2
    exact ow.noT e⟩
  tm := rfl
theorem back_wr (x : Ext G ρ.callee H ρ' H') (R : Rl G ρ' ⟨[], st⟩ [] H') {a : Addr} : (ρ.back ρ').wr a ↔ ρ'.wr a := by
  have e : ρ'.tm = none := R.tm
  have eZ : ρ'.Z = fun a => ρ.Z a ∨ ∃ i, ρ.os i = some a := x.Z
  have eo : ∀ i, ρ'.os i ≠ some a := fun i h => by
    obtain ⟨u, q⟩ := R.os i a h
    simp at q
  unfold Rho.wr Rho.back
  rw [eZ, e]
  constructor
  · rintro (h | h | h | h)
    · exact .inr (.inr (.inr (.inr h)))
    · exact .inr (.inl h)
    · cases h
    · exact .inr (.inr (.inr (.inl h)))
  · rintro (⟨i, h⟩ | h | h | h | h)
    · exact (eo i h).elim
    · exact .inr (.inl h)
    · cases h
    · exact .inr (.inr (.inr h))
    · exact .inl h
theorem back_up (x : Ext G ρ.callee H ρ' H') (R : Rl G ρ' ⟨[], st⟩ [] H') : Up G ρ' H' (ρ.back ρ') H' := Up.same (fun _ h => (back_wr x R).mp h) fun _ _ e => e
/-- behind a call -/
theorem Rl.back (R : Rl G ρ s σ H) (x : Ext G ρ.callee H ρ' H') (R' : Rl G ρ' ⟨[], st⟩ [] H') : Ext G ρ H (ρ.back ρ') H' ∧ Rl G (ρ.back ρ') { s with st := st } σ H' := by
  have U1 : Up G ρ H (ρ.back ρ') H' := ((callee_up R).trans x.toUp).trans (back_up x R')
  have kz : ∀ i a o, ρ.os i = some a → H a = some o → H' a = some o := fun i a o h e => x.zk a o (.inr ⟨i, h⟩) e (by
    obtain ⟨u, q⟩ := R.os i a h
    obtain ⟨a', _, h2, ow⟩ := R.own i u q
    rw [h] at h2; cases h2
    exact ow.noT e)
  refine ⟨⟨U1, rfl, fun a o z e t => x.zk a o (.inl z) e t⟩, R.len, fun i u e => let ⟨v, h, r⟩ := R.val i u e; ⟨v, h, r.up U1⟩, fun i u e => let ⟨a, h, h', r⟩ := R.own i u e; ⟨a, h, h', r.up U1 fun o q => kz i a o h' q⟩, R.os,
    fun j u e => let ⟨a, h, r⟩ := R'.sto j u e; ⟨a, h, r.up (back_up x R') fun _ e => e⟩, R'.ss, fun o o' a h h' => ?_, fun a w => let ⟨o, e, m⟩ := R'.occ a ((back_wr x R').mp w); ⟨o, e, m.1, fun z => m.2 (by rw [x.Z]; exact .inl z)⟩, rfl⟩
  have eZ : ρ'.Z = fun a => ρ.Z a ∨ ∃ i, ρ.os i = some a := x.Z
  have zz : ∀ {a}, (ρ.Z a ∨ ∃ i, ρ.os i = some a) → ρ'.At .z a := fun {a} h => .z (by rw [eZ]; exact h)
  cases h with
  | t h => cases h
  | s h =>
    cases h' with
    | t h' => cases h'
    | s h' => exact R.dj _ _ a (.s h) (.s h')
    | j h' => exact nomatch (R'.dj _ _ a (zz (.inr ⟨_, h⟩)) (.j h'))
    | z h' => exact nomatch (R.dj _ _ a (.s h) (.z h'))
  | j h =>
    cases h' with
    | t h' => cases h'
    | s h' => exact nomatch (R'.dj _ _ a (.j h) (zz (.inr ⟨_, h'⟩)))
    | j h' => exact R'.dj _ _ a (.j h) (.j h')
    | z h' => exact nomatch (R'.dj _ _ a (.j h) (zz (.inl h')))
  | z h =>
    cases h' with
    | t h' => cases h'
    | s h' => exact nomatch (R.dj _ _ a (.z h) (.s h'))
    | j h' => exact nomatch (R'.dj _ _ a (zz (.inl h)) (.j h'))
    | z h' => rfl
theorem ExcRep.up {G : Gx} {ρ ρ' : Rho} {H H' : Hp} {x : U} {cls : Value} {d : Option Addr} (h : ExcRep G ρ H x cls d) (u : Up G ρ H ρ' H') (k : ∀ a o, d = some a → H a = some o → H' a = some o) : ExcRep G ρ' H' x cls d := by
  cases x with
  | exc c fs => obtain ⟨C, m, e, dx, vs, ed, q, r⟩ := h; exact ⟨C, m, e, dx, vs, ed, k _ _ ed q, r.up u⟩
  | ty n => exact h
  | _ => exact h.elim
end
/-- a def called in the frame -/
def callF (f : F) (us : List U) : M U := fun s => match f us s.st with
  | .ok u st => .ok u { s with st := st }
  | .err x st => .err x { s with st := st }
  | .stuck => .stuck
theorem callF_run {f : F} {n : Nat} {ρ : Rho} {s : MS} {σ : L2.St} {H : Hp} {us : List U} {vs : List V} {Q : VK} (R : Rl (gx X) ρ s σ H) (r : Reps (gx X) ρ H us vs) (hn : vs.length = n) (h : OkV X W ρ σ H (callF f us s) Q) :
    spF (gx X) n f vs H Q (WE W σ) := by
  refine ⟨hn, ρ.callee, s.st, us, R.callee, r.up (callee_up R), ?_⟩
  unfold callF at h
  cases q : f us s.st with
  | ok u st =>
    rw [q] at h
    intro ρ' H' v x R' r'
    obtain ⟨x2, R2⟩ := R.back x R'
    exact h _ H' v x2 R2 (r'.up (back_up x R'))
  | err y st =>
    rw [q] at h
    intro ρ' H' cls d x R' r'
    obtain ⟨x2, R2⟩ := R.back x R'
    exact h _ H' cls d x2 R2 (r'.up (back_up x R') fun _ _ _ e => e)
  | stuck => rw [q] at h; exact h.elim
/-- the def at f is borne by the mirror m -/
abbrev FnM (P : Program) (w : World) (G : Gx) (base : Heap) (k : Nat) (f : Addr) (fd : FuncData) (ps : List Str) (m : F) : Prop := FnOk P w G.K G.mg base (L2.CX P w) k f fd ps (spF G ps.length m)
/-- f(e, ..); the defaults ds (told by us') fill up -/
theorem se_call {x : Str} {p : Pos} {k : Nat} {f : Addr} {fd : FuncData} {ps : List Str} {g : F} {ds : List Value} {dvs : List V} {du : List U} (Fn : FnM X.prog X.w (gx X) X.base k f fd ps g) (tk : Takes X W) (hr : Room k X.A) (hg : Gl X x) (hm : X.mg x = some (.ref f)) (hk : PySem.W.keepIn X.K (.ref f) = true)
    (hb : Binds X.K fd ps ds) (hd : Vals dvs ds) (hu : ∀ ρ s σ H, Rl (gx X) ρ s σ H → Reps (gx X) ρ H du dvs) (hl : (e :: es).length + du.length = ps.length) (ha : SA X W (e :: es) ms)
    (hdb : (x == ("__debug__" : Str)) = false := by decide) (he : starEach (e :: es) X.env = (false, eval e X.env) :: starEach es X.env := by rfl) (hpl : (backTo pos (starEach es X.env)).any (·.1) = false := by rfl) :
    SE X W (.Call (.Name x p) (e :: es) [] pos) (bd ms fun us => callF g (us ++ du)) := by
  obtain ⟨⟨t, pa, h⟩, hal⟩ := ha
  refine ⟨_, pe_callSD Fn hr hg hm hk hb hd (fun σ => passAt tk σ) pa hdb he hpl, fun ρ s σ H Q R k => ?_⟩
  refine h ρ s σ H _ R (k.bd fun us s1 ρ1 H1 vs e1 x1 R1 r1 h1 => ?_)
  have r2 := r1.app (hu ρ1 s1 σ H1 R1)
  exact callF_run R1 r2 (by rw [← r2.length, List.length_append, hal s us s1 e1, hl]) h1
end
end Mi

/-! Mini E: statements, targets, stores, loops, a def's body. -/
namespace Mi
open PySem PySem.Spec PyProof.Rows L2

inductive Fl where
  | nx | rt (u : U) | bk | ct
abbrev Sm := M Fl
def OkS (X : Cx) (W : WX) (ρ : Rho) (H : Hp) (r : Res MS Fl) (D : Ends) : Prop := match r with
  | .ok .nx s' => ∀ ρ' σ' H', Ext (gx X) ρ H ρ' H' → Rl (gx X) ρ' s' σ' H' → D.nx σ' H'
  | .ok (.rt u) s' => ∀ ρ' σ' H' v, Ext (gx X) ρ H ρ' H' → Rl (gx X) ρ' s' σ' H' → Rep (gx X) ρ' H' u v → D.rt v H'
  | .ok .bk s' => ∀ ρ' σ' H', Ext (gx X) ρ H ρ' H' → Rl (gx X) ρ' s' σ' H' → D.bk σ' H'
  | .ok .ct s' => ∀ ρ' σ' H', Ext (gx X) ρ H ρ' H' → Rl (gx X) ρ' s' σ' H' → D.ct σ' H'
  | .err x s' => ∀ ρ' σ' H' cls d, Ext (gx X) ρ H ρ' H' → Rl (gx X) ρ' s' σ' H' → ExcRep (gx X) ρ' H' x cls d → W cls d σ' H'
  | .stuck => False
def SS (X : Cx) (W : WX) (st : Stmt) (m : Sm) : Prop := ∃ t, PS X st t ∧ ∀ ρ s σ H D, Rl (gx X) ρ s σ H → OkS X W ρ H (m s) D → t D σ H
def SSs (X : Cx) (W : WX) (st : List Stmt) (m : Sm) : Prop := ∃ t, PSs X st t ∧ ∀ ρ s σ H D, Rl (gx X) ρ s σ H → OkS X W ρ H (m s) D → t D σ H
/-- a target -/
def OkG (X : Cx) (W : WX) (ρ : Rho) (H : Hp) (r : Res MS Unit) (Q : L2.St → Hp → Prop) : Prop := match r with
  | .ok _ s' => ∀ ρ' σ' H', Ext (gx X) ρ H ρ' H' → Rl (gx X) ρ' s' σ' H' → Q σ' H'
  | .err x s' => ∀ ρ' σ' H' cls d, Ext (gx X) ρ H ρ' H' → Rl (gx X) ρ' s' σ' H' → ExcRep (gx X) ρ' H' x cls d → W cls d σ' H'
  | .stuck => False
def SG (X : Cx) (W : WX) (tg : Expr) (g : U → M Unit) : Prop := ∃ t, PG X tg t ∧ ∀ ρ s σ H u v Q, Rl (gx X) ρ s σ H → Rep (gx X) ρ H u v → OkG X W ρ H (g u s) Q → t v σ H Q
def SGs (X : Cx) (W : WX) (ts : List Expr) (g : List U → M Unit) : Prop := ∃ t, PGs X ts t ∧ ∀ ρ s σ H us vs Q, Rl (gx X) ρ s σ H → Reps (gx X) ρ H us vs → OkG X W ρ H (g us s) Q → t vs σ H Q

section
variable {X : Cx} {W : WX} {e a b c o tg : Expr} {es : List Expr} {m ma mb mc : M U} {ms : M (List U)} {mt : M Bool} {st : Stmt} {rest body orelse : List Stmt} {n n1 n2 : Sm} {g : U → M Unit} {gs : List U → M Unit} {pos : Pos}
/-- an expression's outcome within a statement -/
theorem OkS.bdE {α β : Type} {R1 : Rho → Hp → α → β → Prop} {m : M α} {f : α → Sm} {ρ : Rho} {s : MS} {σ : L2.St} {H : Hp} {D : Ends} {P : β → Hp → Prop} (h : OkS X W ρ H (Mi.bd m f s) D)
    (k : ∀ u s' ρ' H' v, m s = .ok u s' → Ext (gx X) ρ H ρ' H' → Rl (gx X) ρ' s' σ H' → R1 ρ' H' u v → OkS X W ρ' H' (f u s') D → P v H') : Ok X W R1 ρ σ H (m s) P := by
  unfold Mi.bd at h
  cases q : m s with
  | ok u s' =>
    rw [q] at h
    intro ρ' H' v x R r
    refine k u s' ρ' H' v q x R r ?_
    dsimp only at h
    cases q2 : f u s' with
    | ok fl s2 =>
      rw [q2] at h
      cases fl with
      | nx => exact fun ρ2 σ2 H2 x2 R2 => h ρ2 σ2 H2 (x.trans x2) R2
      | bk => exact fun ρ2 σ2 H2 x2 R2 => h ρ2 σ2 H2 (x.trans x2) R2
      | ct => exact fun ρ2 σ2 H2 x2 R2 => h ρ2 σ2 H2 (x.trans x2) R2
      | rt u => exact fun ρ2 σ2 H2 v2 x2 R2 r2 => h ρ2 σ2 H2 v2 (x.trans x2) R2 r2
    | err y s2 => rw [q2] at h; exact fun ρ2 σ2 H2 c2 d2 x2 R2 r2 => h ρ2 σ2 H2 c2 d2 (x.trans x2) R2 r2
    | stuck => rw [q2] at h; exact h
  | err y s' => rw [q] at h; exact fun ρ' H' cls d x R r => h ρ' σ H' cls d x R r
  | stuck => rw [q] at h; exact h.elim
theorem OkS.ext {ρ ρ' : Rho} {H H' : Hp} {r : Res MS Fl} {D : Ends} (h : OkS X W ρ H r D) (x : Ext (gx X) ρ H ρ' H') : OkS X W ρ' H' r D := by
  cases r with
  | ok fl s2 =>
    cases fl with
    | nx => exact fun ρ2 σ2 H2 x2 R2 => h ρ2 σ2 H2 (x.trans x2) R2
    | bk => exact fun ρ2 σ2 H2 x2 R2 => h ρ2 σ2 H2 (x.trans x2) R2
    | ct => exact fun ρ2 σ2 H2 x2 R2 => h ρ2 σ2 H2 (x.trans x2) R2
    | rt u => exact fun ρ2 σ2 H2 v2 x2 R2 r2 => h ρ2 σ2 H2 v2 (x.trans x2) R2 r2
  | err y s2 => exact fun ρ2 σ2 H2 c2 d2 x2 R2 r2 => h ρ2 σ2 H2 c2 d2 (x.trans x2) R2 r2
  | stuck => exact h
theorem OkG.bdS {f : Sm} {mg : M Unit} {ρ : Rho} {s : MS} {H : Hp} {D : Ends} {P : L2.St → Hp → Prop} (h : OkS X W ρ H (Mi.bd mg (fun _ => f) s) D)
    (k : ∀ s' ρ' σ' H', mg s = .ok () s' → Ext (gx X) ρ H ρ' H' → Rl (gx X) ρ' s' σ' H' → OkS X W ρ' H' (f s') D → P σ' H') : OkG X W ρ H (mg s) P := by
  unfold Mi.bd at h
  cases q : mg s with
  | ok u s' => rw [q] at h; exact fun ρ' σ' H' x R => k s' ρ' σ' H' q x R (OkS.ext h x)
  | err y s' => rw [q] at h; exact h
  | stuck => rw [q] at h; exact h.elim
theorem OkG.bd {f mg : M Unit} {ρ : Rho} {s : MS} {H : Hp} {P Q : L2.St → Hp → Prop} (h : OkG X W ρ H (Mi.bd mg (fun _ => f) s) Q)
    (k : ∀ s' ρ' σ' H', mg s = .ok () s' → Ext (gx X) ρ H ρ' H' → Rl (gx X) ρ' s' σ' H' → OkG X W ρ' H' (f s') Q → P σ' H') : OkG X W ρ H (mg s) P := by
  unfold Mi.bd at h
  cases q : mg s with
  | ok u s' =>
    rw [q] at h
    intro ρ' σ' H' x R
    refine k s' ρ' σ' H' q x R ?_
    dsimp only at h
    cases q2 : f s' with
    | ok _ s2 => rw [q2] at h; exact fun ρ2 σ2 H2 x2 R2 => h ρ2 σ2 H2 (x.trans x2) R2
    | err y s2 => rw [q2] at h; exact fun ρ2 σ2 H2 c2 d2 x2 R2 r2 => h ρ2 σ2 H2 c2 d2 (x.trans x2) R2 r2
    | stuck => rw [q2] at h; exact h
  | err y s' => rw [q] at h; exact h
  | stuck => rw [q] at h; exact h.elim
theorem OkG.bdE {α β : Type} {R1 : Rho → Hp → α → β → Prop} {m : M α} {f : α → M Unit} {ρ : Rho} {s : MS} {σ : L2.St} {H : Hp} {Q : L2.St → Hp → Prop} {P : β → Hp → Prop} (h : OkG X W ρ H (Mi.bd m f s) Q)
    (k : ∀ u s' ρ' H' v, m s = .ok u s' → Ext (gx X) ρ H ρ' H' → Rl (gx X) ρ' s' σ H' → R1 ρ' H' u v → OkG X W ρ' H' (f u s') Q → P v H') : Ok X W R1 ρ σ H (m s) P := by
  unfold Mi.bd at h
  cases q : m s with
  | ok u s' =>
    rw [q] at h
    intro ρ' H' v x R r
    refine k u s' ρ' H' v q x R r ?_
    dsimp only at h
    cases q2 : f u s' with
    | ok fl s2 => rw [q2] at h; exact fun ρ2 σ2 H2 x2 R2 => h ρ2 σ2 H2 (x.trans x2) R2
    | err y s2 => rw [q2] at h; exact fun ρ2 σ2 H2 c2 d2 x2 R2 r2 => h ρ2 σ2 H2 c2 d2 (x.trans x2) R2 r2
    | stuck => rw [q2] at h; exact h
  | err y s' => rw [q] at h; exact fun ρ' H' cls d x R r => h ρ' σ H' cls d x R r
  | stuck => rw [q] at h; exact h.elim

/-! ### blocks and small statements -/
def seq (m n : Sm) : Sm := fun s => match m s with
  | .ok .nx s' => n s'
  | r => r
theorem sss_nil : SSs X W [] (ret .nx) := ⟨_, pss_nil, fun ρ s σ H D R h => h ρ σ H Ext.refl R⟩
theorem sss_cons (h1 : SS X W st n1) (h2 : SSs X W rest n2) : SSs X W (st :: rest) (seq n1 n2) := by
  obtain ⟨t, p, h1⟩ := h1
  obtain ⟨u, q, h2⟩ := h2
  refine ⟨_, pss_cons p q, fun ρ s σ H D R h => ?_⟩
  refine h1 ρ s σ H { D with nx := u D } R ?_
  unfold seq at h
  cases z : n1 s with
  | ok fl s' =>
    rw [z] at h
    cases fl with
    | nx => exact fun ρ' σ' H' x R' => h2 ρ' s' σ' H' D R' (OkS.ext h x)
    | rt u => exact h
    | bk => exact h
    | ct => exact h
  | err y s' => rw [z] at h; exact h
  | stuck => rw [z] at h; exact h
theorem sss_one (h1 : SS X W st n1) : SSs X W [st] n1 := by
  obtain ⟨t, p, h1⟩ := h1
  exact ⟨_, pss_one p, h1⟩
theorem ss_pass : SS X W (.Pass pos) (ret .nx) := ⟨_, ps_pass, fun ρ s σ H D R h => h ρ σ H Ext.refl R⟩
theorem ss_bk : SS X W (.Break pos) (ret .bk) := ⟨_, ps_break, fun ρ s σ H D R h => h ρ σ H Ext.refl R⟩
theorem ss_ct : SS X W (.Continue pos) (ret .ct) := ⟨_, ps_continue, fun ρ s σ H D R h => h ρ σ H Ext.refl R⟩
theorem ss_never : SS X W st stk := ⟨_, ps_never, fun _ _ _ _ _ _ h => h⟩
theorem sss_never : SSs X W body stk := ⟨_, pss_never, fun _ _ _ _ _ _ h => h⟩
theorem ss_expr (h : SE0 X W e m) (hs : swapsWith e none pos.line X.env = pure false := by rfl) : SS X W (.Expr e pos) (bd m fun _ => ret .nx) := by
  obtain ⟨t, p, h⟩ := h
  exact ⟨_, ps_expr p hs, fun ρ s σ H D R k => h ρ s σ H _ R (OkS.bdE k fun u s1 ρ1 H1 v _ x1 R1 r1 h1 => h1 ρ1 σ H1 Ext.refl R1)⟩
theorem ss_ret (h : SE X W e m) : SS X W (.Return (some e) pos) (bd m fun u => ret (.rt u)) := by
  obtain ⟨t, p, h⟩ := h
  exact ⟨_, ps_ret p, fun ρ s σ H D R k => h ρ s σ H _ R (OkS.bdE k fun u s1 ρ1 H1 v _ x1 R1 r1 h1 => h1 ρ1 σ H1 v Ext.refl R1 r1)⟩
theorem ss_retN : SS X W (.Return none pos) (ret (.rt .non)) := ⟨_, ps_retN, fun ρ s σ H D R h => h ρ σ H _ Ext.refl R .non⟩
def iff_ (t : M Bool) (a b : Sm) : Sm := bd t fun k => bif k then a else b
theorem ss_if (hc : ST X W c mt) (ha : SSs X W body n1) (hb : SSs X W orelse n2) : SS X W (.If c body orelse pos) (iff_ mt n1 n2) := by
  obtain ⟨t, p, h⟩ := hc
  obtain ⟨ta, pa, ha⟩ := ha
  obtain ⟨tb, pb, hb⟩ := hb
  refine ⟨_, ps_if p pa pb, fun ρ s σ H D R k => h ρ s σ H _ R (OkS.bdE k fun u s1 ρ1 H1 v _ x1 R1 r1 h1 => ?_)⟩
  cases r1
  cases u with
  | true => rw [if_pos rfl]; exact ha ρ1 s1 σ H1 D R1 h1
  | false => rw [if_neg Bool.false_ne_true]; exact hb ρ1 s1 σ H1 D R1 h1

/-! ### names stored -/
def stv (i : Nat) (u : U) : M Unit := fun s => .ok () { s with env := s.env.set i (.val u) }
theorem sg_name {i : Nat} {x : Str} (hN : X.N.Nodup) (hi : X.N[i]? = some x) (hx : Loc X.env.scope x) (hf : X.fn x = true ∨ X.env.scope.names.lookup x = some .local := by first | exact .inl rfl | exact .inr rfl | assumption) : SG X W (.Name x pos) (stv i) :=
  ⟨_, pg_name hN hi hx hf, fun ρ s σ H u v Q R r h => h _ _ H free_ext (R.set i r)⟩
theorem sgs_nil : SGs X W [] (fun us => match us with | [] => ret () | _ => stk) := by
  refine ⟨_, pgs_nil, fun ρ s σ H us vs Q R r h => ?_⟩
  cases r with
  | nil => exact ⟨rfl, h ρ σ H Ext.refl R⟩
  | cons => exact h.elim
def gcons (g : U → M Unit) (gs : List U → M Unit) : List U → M Unit
  | u :: us => bd (g u) fun _ => gs us
  | [] => stk
theorem sgs_cons {ts : List Expr} (h1 : SG X W tg g) (h2 : SGs X W ts gs) (hs : (assignEach (tg :: ts) X.env).map (·.2) = assign tg X.env :: (assignEach ts X.env).map (·.2) := by rfl) : SGs X W (tg :: ts) (gcons g gs) := by
  obtain ⟨t, p, h1⟩ := h1
  obtain ⟨u, q, h2⟩ := h2
  refine ⟨_, pgs_cons p q hs, fun ρ s σ H us vs Q R r h => ?_⟩
  cases r with
  | nil => exact h.elim
  | cons r0 r =>
    refine ⟨_, _, rfl, h1 ρ s σ H _ _ _ R r0 (OkG.bd h fun s1 ρ1 σ1 H1 _ x1 R1 h1 => ?_)⟩
    exact h2 ρ1 s1 σ1 H1 _ _ Q R1 (r.up x1.toUp) h1
/-- (a, b, ..) = a tuple of that length -/
def gtup (n : Nat) (gs : List U → M Unit) : U → M Unit
  | .tup us => when (us.length == n) (gs us)
  | .lst us => when (us.length == n) (gs us)
  | _ => stk
/-- a tuple or a list of that length -/
def gSeq (K : PySem.W.Frag) (n : Nat) (t : TGs) : TG := fun v σ H Q => gTup K n t v σ H Q ∨ gLst K n t v σ H Q
theorem pg_seq {ts : List Expr} {k n : Nat} {t : TGs} (hc : X.calm = true) (h : PGs X ts t) (hn : (assignEach ts X.env).length = n) (hst : (assignEach ts X.env).findIdx? (·.1) = none) : PG X (.Tuple ts k pos) (gSeq X.K n t) :=
  ⟨fun pins s σ H v u Q I r hw => hw.elim ((pg_tup hc h hn hst).run pins s σ H v u Q I r) ((pg_lst hc h hn hst).run pins s σ H v u Q I r)⟩
theorem OkG.when {b : Bool} {m : M Unit} {ρ : Rho} {s : MS} {H : Hp} {Q : L2.St → Hp → Prop} (h : OkG X W ρ H (when b m s) Q) : b = true ∧ OkG X W ρ H (m s) Q := by
  have h : OkG X W ρ H (if b = true then m s else .stuck) Q := h
  by_cases e : b = true
  · rw [if_pos e] at h; exact ⟨e, h⟩
  · rw [if_neg e] at h; exact h.elim
theorem sg_tup {ts : List Expr} {k n : Nat} (hc : X.calm = true) (h : SGs X W ts gs) (hn : (assignEach ts X.env).length = n := by rfl) (hst : (assignEach ts X.env).findIdx? (·.1) = none := by rfl) : SG X W (.Tuple ts k pos) (gtup n gs) := by
  obtain ⟨t, p, h⟩ := h
  refine ⟨_, pg_seq hc p hn hst, fun ρ s σ H u v Q R r k => ?_⟩
  cases r with
  | tup q rs =>
    obtain ⟨e, k⟩ := OkG.when k
    exact .inl ⟨_, _, rfl, q.sq, by rw [← rs.length]; exact beq_iff_eq.mp e, h ρ s σ H _ _ Q R rs k⟩
  | lst q rs =>
    obtain ⟨e, k⟩ := OkG.when k
    exact .inr ⟨_, _, rfl, q.sq, by rw [← rs.length]; exact beq_iff_eq.mp e, h ρ s σ H _ _ Q R rs k⟩
  | _ => exact k.elim
/-- target = value -/
theorem ss_asg (he : SE X W e m) (hg : SG X W tg g) (hs : swapsWithSole [tg] e pos.line X.env = pure false := by rfl) (hw : swappedStores [tg] e X.env = pure none := by rfl)
    (h1 : (assignEach [tg] X.env).map (·.2) = [assign tg X.env] := by rfl) : SS X W (.Assign [tg] e pos) (bd m fun u => bd (g u) fun _ => ret .nx) := by
  obtain ⟨t, p, he⟩ := he
  obtain ⟨u, q, hg⟩ := hg
  refine ⟨_, ps_asg p q hs hw h1, fun ρ s σ H D R k => he ρ s σ H _ R (OkS.bdE k fun u s1 ρ1 H1 v _ x1 R1 r1 h1 => ?_)⟩
  exact hg ρ1 s1 σ H1 u v _ R1 r1 (OkG.bdS h1 fun s2 ρ2 σ2 H2 _ x2 R2 h2 => h2 ρ2 σ2 H2 Ext.refl R2)
theorem ss_set {i : Nat} {x : Str} {pos' : Pos} (hN : X.N.Nodup) (hi : X.N[i]? = some x) (hx : Loc X.env.scope x) (he : SE X W e m) (hs : swapsWith e (some (.Name x pos')) pos.line X.env = pure false := by rfl)
    (hf : X.fn x = true ∨ X.env.scope.names.lookup x = some .local := by first | exact .inl rfl | exact .inr rfl | assumption) : SS X W (.Assign [.Name x pos'] e pos) (bd m fun u => bd (stv i u) fun _ => ret .nx) := by
  obtain ⟨t, p, he⟩ := he
  refine ⟨_, ps_set hN hi hx p hs hf, fun ρ s σ H D R k => he ρ s σ H _ R (OkS.bdE k fun u s1 ρ1 H1 v _ x1 R1 r1 h1 => ?_)⟩
  exact h1 _ _ H1 free_ext (R1.set i r1)
/-- a, b = x, y -/
def par2 (i j : Nat) (ms : M (List U)) : Sm := bd ms fun us => match us with
  | [u, w] => bd (stv i u) fun _ => bd (stv j w) fun _ => ret .nx
  | _ => stk
theorem ss_par2 {i j : Nat} {x y : Str} {px py pt : Pos} {kt k2 pt2} (hc : X.calm = true) (hN : X.N.Nodup) (hi : X.N[i]? = some x) (hj : X.N[j]? = some y) (hij : i ≠ j)
    (hx : X.env.scope.names.lookup x = some .local) (hy : X.env.scope.names.lookup y = some .local) (ha : SA X W [a, b] ms)
    (hw : swappedStores [.Tuple [.Name x px, .Name y py] kt pt] (.Tuple [a, b] k2 pt2) X.env = pure (some [x, y]))
    (hs : swapsWithSole [.Tuple [.Name x px, .Name y py] kt pt] (.Tuple [a, b] k2 pt2) pos.line X.env = pure false := by rfl) :
    SS X W (.Assign [.Tuple [.Name x px, .Name y py] kt pt] (.Tuple [a, b] k2 pt2) pos) (par2 i j ms) := by
  obtain ⟨⟨t, p, h⟩, hl⟩ := ha
  refine ⟨_, ps_par hc hN hi hj hij hx hy p hw hs, fun ρ s σ H D R k => h ρ s σ H _ R (OkS.bdE k fun us s1 ρ1 H1 vs _ x1 R1 r1 h1 => ?_)⟩
  cases r1 with
  | nil => exact h1.elim
  | cons a1 r1 =>
    cases r1 with
    | nil => exact h1.elim
    | cons a2 r1 =>
      cases r1 with
      | nil =>
        refine ⟨_, _, rfl, ?_⟩
        exact h1 _ _ H1 (free_ext.trans free_ext) ((R1.set i a1).set j (a2.up free_ext.toUp))
      | cons => exact h1.elim
/-- name op= e (ints) -/
theorem ss_aug {i : Nat} {x : Str} {op : Operator} {r : R2} {g : U → U → M U} {pos' : Pos} (hN : X.N.Nodup) (hi : X.N[i]? = some x) (hx : Loc X.env.scope x) (ho : OpR X (inplaceOp op) r) (hg : Bears X W r g) (he : SE X W e m)
    (hf : X.fn x = true ∨ X.env.scope.names.lookup x = some .local := by first | exact .inl rfl | exact .inr rfl | assumption) :
    SS X W (.AugAssign (.Name x pos') op e pos) (bd (rv i) fun u => bd m fun w => bd (g u w) fun z => bd (stv i z) fun _ => ret .nx) := by
  obtain ⟨t, p, he⟩ := he
  refine ⟨_, ps_aug (ti := r) hN hi hx p (fun pins s σ H x y v u Q I rx ry h => ho pins s σ H x y v u Q I rx ry h) hf, fun ρ s σ H D R k => ?_⟩
  have k1 : Ok X W (fun ρ' H' u v => Rep (gx X) ρ' H' u v ∧ σ[i]? = some (some v)) ρ σ H (rv i s) (fun v H' => ∃ x, σ[i]? = some (some x) ∧ t σ H' fun y H1 => r x y H1 fun z H2 => D.nx (σ.set i (some z)) H2) := by
    refine OkS.bdE k fun u s1 ρ1 H1 v _ x1 R1 r1 h1 => ⟨v, r1.2, ?_⟩
    refine he ρ1 s1 σ H1 _ R1 (OkS.bdE h1 fun w s2 ρ2 H2 y _ x2 R2 r2 h2 => ?_)
    refine hg ρ2 s2 σ H2 u w v y _ R2 (.inl (r1.1.up x2.toUp)) (.inl r2) (OkS.bdE h2 fun z s3 ρ3 H3 q _ x3 R3 r3 h3 => ?_)
    exact h3 _ _ H3 free_ext (R3.set i r3)
  unfold rv at k1
  cases q : s.env[i]? with
  | none => rw [q] at k1; exact k1.elim
  | some y =>
    rw [q] at k1
    cases y with
    | no => exact k1.elim
    | val u =>
      obtain ⟨v, h1, h2⟩ := R.val i u q
      exact k1 ρ H v Ext.refl R ⟨h2, h1⟩
    | own u =>
      obtain ⟨v, h1, h2, h3⟩ := R.freeze q
      exact k1 _ H v free_ext h2 ⟨h3, h1⟩
end
end Mi

/-! Mini F: things that change: owned names, the store; loops; bodies. -/
namespace Mi
open PySem PySem.Spec PyProof.Rows L2

/-! ### writing -/
section
variable {G : Gx} {t : Option Addr} {ρ ρ' : Rho} {s s' : MS} {σ σ' : L2.St} {H H' : Hp} {a p : Addr} {o : HO} {u c : U} {v : V}
theorem put_up (w : ρ.wr a) : Up G ρ H ρ (upd H a o) := ⟨fun b q e n _ => ⟨.inl (by rw [upd_ne (fun z => n (by rw [z]; exact w))]; exact e), n⟩, fun _ _ e => e⟩
theorem put_ext (w : ρ.wr a) (nz : ¬ ρ.Z a) : Ext G ρ H ρ (upd H a o) := ⟨put_up w, rfl, fun b q z e _ => by rw [upd_ne (fun y => nz (by rw [← y]; exact z))]; exact e⟩
/-- the object of slot i is written -/
theorem RlT.putS (R : RlT G t ρ s σ H) {i : Nat} (e : s.env[i]? = some (Sl.own u)) (ea : ρ.os i = some a) (ow : Own G ρ (upd H a o) c a) :
    Ext G ρ H ρ (upd H a o) ∧ RlT G t ρ { s with env := s.env.set i (.own c) } σ (upd H a o) := by
  have at_ : ρ.At (.s i) a := .s ea
  have U1 : Up G ρ H ρ (upd H a o) := put_up at_.wr
  have nz : ¬ ρ.Z a := fun z => nomatch (R.dj _ _ a at_ (.z z))
  have es : ∀ j, j ≠ i → ({ s with env := s.env.set i (.own c) } : MS).env[j]? = s.env[j]? := fun j h => List.getElem?_set_ne (Ne.symm h)
  have es' : ({ s with env := s.env.set i (.own c) } : MS).env[i]? = some (Sl.own c) := List.getElem?_set_self (List.getElem?_eq_some_iff.mp e).1
  obtain ⟨a', h1, h2, h3⟩ := R.own i u e
  have : a' = a := by rw [ea] at h2; exact (Option.some.inj h2).symm
  subst this
  refine ⟨put_ext at_.wr nz, by simp [R.len], fun j w q => ?_, fun j w q => ?_, fun j b q => ?_, fun j w q => ?_, R.ss, R.dj, fun b w => ?_, R.tm⟩
  · by_cases z : j = i
    · subst z; rw [es'] at q; cases q
    · rw [es j z] at q
      obtain ⟨y, k1, k2⟩ := R.val j w q
      exact ⟨y, k1, k2.up U1⟩
  · by_cases z : j = i
    · subst z; rw [es'] at q; cases q
      exact ⟨_, h1, ea, ow⟩
    · rw [es j z] at q
      obtain ⟨b, k1, k2, k3⟩ := R.own j w q
      have ne : b ≠ a' := fun y => by
        subst y
        exact z (Owner.s.inj (R.dj _ _ _ (.s k2) at_))
      exact ⟨b, k1, k2, k3.up U1 fun q e => by rw [upd_ne ne]; exact e⟩
  · by_cases z : j = i
    · subst z; exact ⟨c, es'⟩
    · obtain ⟨w, k⟩ := R.os j b q
      exact ⟨w, by rw [es j z]; exact k⟩
  · obtain ⟨b, k2, k3⟩ := R.sto j w q
    have ne : b ≠ a' := fun y => by
      subst y
      exact nomatch (R.dj _ _ _ (.j k2) at_)
    exact ⟨b, k2, k3.up U1 fun q e => by rw [upd_ne ne]; exact e⟩
  · by_cases z : b = a'
    · subst z; obtain ⟨o', e1, m1⟩ := ow.mut; exact ⟨o', e1, m1, fun z => absurd z nz⟩
    · rw [upd_ne z]; exact R.occ b w
/-- the object j of the store is written -/
theorem RlT.putJ (R : RlT G t ρ s σ H) {j : Nat} (e : s.st[j]? = some u) (ea : ρ.ss j = some a) (ow : Own G ρ (upd H a o) c a) :
    Ext G ρ H ρ (upd H a o) ∧ RlT G t ρ { s with st := s.st.set j c } σ (upd H a o) := by
  have at_ : ρ.At (.j j) a := .j ea
  have U1 : Up G ρ H ρ (upd H a o) := put_up at_.wr
  have nz : ¬ ρ.Z a := fun z => nomatch (R.dj _ _ a at_ (.z z))
  refine ⟨put_ext at_.wr nz, R.len, fun k w q => ?_, fun k w q => ?_, R.os, fun k w q => ?_, fun k b q => ?_, R.dj, fun b w => ?_, R.tm⟩
  · obtain ⟨y, k1, k2⟩ := R.val k w q
    exact ⟨y, k1, k2.up U1⟩
  · obtain ⟨b, k1, k2, k3⟩ := R.own k w q
    have ne : b ≠ a := fun y => by
      subst y
      exact nomatch (R.dj _ _ _ (.s k2) at_)
    exact ⟨b, k1, k2, k3.up U1 fun q e => by rw [upd_ne ne]; exact e⟩
  · by_cases z : k = j
    · subst z
      rw [show ({ s with st := s.st.set k c } : MS).st = s.st.set k c from rfl, List.getElem?_set_self (List.getElem?_eq_some_iff.mp e).1] at q
      cases q
      exact ⟨a, ea, ow.s⟩
    · rw [show ({ s with st := s.st.set j c } : MS).st = s.st.set j c from rfl, List.getElem?_set_ne (Ne.symm z)] at q
      obtain ⟨b, k2, k3⟩ := R.sto k w q
      have ne : b ≠ a := fun y => by
        subst y
        exact z (Owner.j.inj (R.dj _ _ _ (.j k2) at_))
      exact ⟨b, k2, k3.up U1 fun q e => by rw [upd_ne ne]; exact e⟩
  · have := R.ss k b q
    simpa using this
  · by_cases z : b = a
    · subst z; obtain ⟨o', e1, m1⟩ := ow.mut; exact ⟨o', e1, m1, fun z => absurd z nz⟩
    · rw [upd_ne z]; exact R.occ b w
end
/-- the content of what is named o is changed by f -/
def upC (o : U) (f : U → Option U) : M Unit := fun s => match o with
  | .slot i => (match s.env[i]? with
    | some (.own c) => (match f c with
      | some c' => .ok () { s with env := s.env.set i (.own c') }
      | none => .stuck)
    | _ => .stuck)
  | .ref j => (match s.st[j]? with
    | some c => (match f c with
      | some c' => .ok () { s with st := s.st.set j c' }
      | none => .stuck)
    | none => .stuck)
  | _ => .stuck
theorem upC_ok {G : Gx} {t : Option Addr} {ρ : Rho} {s : MS} {σ : L2.St} {H : Hp} {o : U} {v : V} {f : U → Option U} (R : RlT G t ρ s σ H) (r : RepE G ρ σ H o v) :
    (∃ a c c' s', v = .ref a ∧ ρ.wr a ∧ ¬ ρ.Z a ∧ OwnS G ρ H c a ∧ f c = some c' ∧ upC o f s = .ok () s' ∧ ∀ ho, Own G ρ (upd H a ho) c' a → Ext G ρ H ρ (upd H a ho) ∧ RlT G t ρ s' σ (upd H a ho)) ∨ upC o f s = .stuck := by
  cases o with
  | slot i =>
    have r : σ[i]? = some (some v) := r
    unfold upC
    dsimp only
    cases q : s.env[i]? with
    | none => exact .inr (by simp only [q])
    | some y =>
      cases y with
      | no => exact .inr (by simp only [q])
      | val u => exact .inr (by simp only [q])
      | own c =>
        simp only [q]
        cases e : f c with
        | none => exact .inr rfl
        | some c' =>
          obtain ⟨a, h1, h2, h3⟩ := R.own i c q
          rw [h1] at r; cases r
          exact .inl ⟨a, c, c', _, rfl, Rho.At.wr (.s h2), (fun z => nomatch (R.dj _ _ a (.s h2) (.z z))), h3.s, e, rfl, fun ho ow => R.putS q h2 ow⟩
  | ref j =>
    have r : Rep G ρ H (.ref j) v := r
    unfold upC
    dsimp only
    cases q : s.st[j]? with
    | none => exact .inr (by simp only [q])
    | some c =>
      simp only [q]
      cases e : f c with
      | none => exact .inr rfl
      | some c' =>
        obtain ⟨a, h2, h3⟩ := R.sto j c q
        cases r with
        | ref h =>
          rw [h2] at h; cases h
          exact .inl ⟨a, c, c', _, rfl, Rho.At.wr (.j h2), (fun z => nomatch (R.dj _ _ a (.j h2) (.z z))), h3, e, rfl, fun ho ow => R.putJ q h2 ow⟩
  | _ => exact .inr rfl

/-! ### a[i] = e -/
def setIx (u : U) (k : U) : U → Option U
  | .lst us => match k with
    | .int i => (ixN us.length i).map fun j => .lst (us.set j u)
    | _ => none
  | _ => none
section
variable {X : Cx} {W : WX} {e a b c o tg : Expr} {es : List Expr} {m ma mb mc : M U} {ms : M (List U)} {mt : M Bool} {st : Stmt} {rest body orelse : List Stmt} {n n1 n2 : Sm} {g : U → M Unit} {gs : List U → M Unit} {pos : Pos}
theorem upd_ow {G : Gx} {ρ : Rho} {H : Hp} {a : Addr} {us : List U} {vs : List V} (w : ρ.wr a) (r : Reps G ρ H us vs) : Own G ρ (upd H a (.lst vs)) (.lst us) a := ⟨vs, upd_same, r.up (put_up w)⟩
theorem sg_sub (ho : SE0 X W o ma) (hi : SE X W b mb) (ha : ∀ v, assign (.Subscript o b pos) X.env v = (do
      let ov ← holding [v] (eval o X.env)
      let iv ← holding [v, ov] (eval b X.env)
      standAt pos
      holding [v, ov, iv] (setItem ov iv v)
      release [v, ov, iv] []) := by intro _; rfl) : SG X W (.Subscript o b pos) (fun u => bd ma fun x => bd mb fun k => upC x (setIx u k)) := by
  obtain ⟨t, p, ho⟩ := ho
  obtain ⟨ti, q, hi⟩ := hi
  refine ⟨_, pg_sub p q set_list ha, fun ρ s σ H u v Q R r h => ?_⟩
  refine ho ρ s σ H _ R (OkG.bdE h fun x s1 ρ1 H1 y _ x1 R1 r1 h1 => ?_)
  refine hi ρ1 s1 σ H1 _ R1 (OkG.bdE h1 fun k s2 ρ2 H2 z _ x2 R2 r2 h2 => ?_)
  have ru := (r.up x1.toUp).up x2.toUp
  rcases upC_ok (f := setIx u k) R2 (r1.up x2.toUp) with ⟨ad, cc, c', s', rfl, w, nz, ow, ef, es, hw⟩ | es
  · rw [es] at h2
    cases cc with
    | lst us =>
      cases k with
      | int i =>
        obtain ⟨j, e1, e2⟩ := Option.map_eq_some_iff.mp (show (ixN us.length i).map (fun j => U.lst (us.set j u)) = some c' from ef)
        subst e2
        obtain ⟨vs, ea, rs⟩ := ow
        cases r2
        refine ⟨ad, vs, i, j, rfl, rfl, ea, by rw [← rs.length]; exact e1, ?_⟩
        obtain ⟨x3, R3⟩ := hw (.lst (vs.set j v)) (upd_ow w (rs.set j ru))
        exact h2 _ σ _ x3 R3
      | _ => cases ef
    | _ => cases ef
  · rw [es] at h2; exact h2.elim

/-! ### methods of built-in types -/
/-- the kind of a content -/
def isTy (T : String) : U → Bool
  | .str _ => T == "str"
  | .lst _ => T == "list"
  | .dK _ => T == "dict"
  | .dT _ => T == "dict"
  | _ => false
/-- as tyV, locked dicts too -/
def tyW (K : PySem.W.Frag) (T : String) (x : V) (H : Hp) : Prop := tyV K T x H ∨ (T = "dict" ∧ ∃ p, x = .ref p ∧ ((∃ kvs, Rd H p (.dK kvs)) ∨ ∃ kvs, Rd H p (.dT kvs)))
theorem tyW_is {pins : List (Addr × Obj)} {σ : L2.St} {H : Hp} {s : Shared} {T : String} {x : V} {v : Value} (I : Inv X pins σ H s) (r : RelV x v) (ty : tyW X.K T x H) :
    s.TypeIs v T ∧ ∀ a, v = .ref a → ∃ ob, s.heap.get? a = some ob ∧ ob.dict = none := by
  rcases ty with ty | ⟨rfl, p, rfl, hk⟩
  · exact tyV_is I r ty
  · cases r
    have z : ∃ o, s.heap.get? p = some o ∧ o.ExactDict := by
      rcases hk with ⟨kvs, hk⟩ | ⟨kvs, hk⟩
      · obtain ⟨_, _, _, _, o, _, _, e, ex, _⟩ := hk.ok I.hok
        exact ⟨o, e, ex⟩
      · obtain ⟨_, _, _, _, o, _, _, e, ex, _⟩ := hk.ok I.hok
        exact ⟨o, e, ex⟩
    obtain ⟨o, e, ex⟩ := z
    refine ⟨⟨o, e, ex.1⟩, fun a e2 => ?_⟩
    cases e2
    exact ⟨o, e, ex.2.1⟩
theorem isTy_ok {ρ : Rho} {H : Hp} {T : String} {u : U} {v : V} (c : Con (gx X) ρ H u v) (h : isTy T u = true) : tyW X.K T v H := by
  cases u with
  | str x => cases c.str; exact .inl (beq_iff_eq.mp h)
  | lst us => obtain ⟨a, vs, rfl, q, _⟩ := c.lst; exact .inl (.inl ⟨beq_iff_eq.mp h, _, .of q⟩)
  | dK us => obtain ⟨a, vs, rfl, q, _⟩ := c.dK; exact .inr ⟨beq_iff_eq.mp h, a, rfl, .inl ⟨_, q⟩⟩
  | dT us => obtain ⟨a, vs, rfl, q, _⟩ := c.dT; exact .inr ⟨beq_iff_eq.mp h, a, rfl, .inr ⟨_, q⟩⟩
  | _ => cases h
def tBW (K : PySem.W.Frag) (T : String) (r : V → List V → Hp → VK → Prop) (to : TE) (t : TA) : TE := fun σ H Q => to σ H fun x H1 => tyW K T x H1 ∧ t σ H1 fun xs H2 => r x xs H2 Q
theorem pe_bw0 {T id : String} {name : Str} {r : V → List V → Hp → VK → Prop} {to : TE} {apos cpos : Pos} (pa : PlainAttrs T) (slot : Slot T name id) (hty : typeOf (.builtin id) = pure (.type "method_descriptor")) (hm : MtR X id r) (ho : PE X o to)
    (hbase : attributeBase o name X.env (eval o X.env) = eval o X.env := by rfl) (hline : (apos.endLine == cpos.line) = true := by rfl) : PE X (.Call (.Attribute o name apos) [] [] cpos) (tBW X.K T r to tNil) := by
  refine ⟨fun pins s σ H Q I h => ?_⟩
  refine wpAny_Call_method0_late hbase hline (thn (ho.run pins s σ H _ I h) fun v s1 ⟨x, H1, I1, r1, ty, q1⟩ => ?_)
  obtain ⟨h1, h2⟩ := tyW_is I1 r1 ty
  exact ⟨T, id, pa, slot, hty, h1, h2, Calls.callWith_builtin rfl (PySem.evalArgs_none (hm pins s1 σ H1 x [] v [] Q I1 r1 .nil q1))⟩
theorem pe_bw {T id : String} {name : Str} {r : V → List V → Hp → VK → Prop} {to : TE} {t : TA} {apos cpos : Pos} (pa : PlainAttrs T) (slot : Slot T name id) (hty : typeOf (.builtin id) = pure (.type "method_descriptor")) (hm : MtR X id r) (ho : PE X o to) (ha : PA X (e :: es) t)
    (hbase : attributeBase o name X.env (eval o X.env) = eval o X.env := by rfl)
    (hfew : ((backTo cpos (starEach (e :: es) X.env)).all (fun x => !x.1) && (backToKw cpos (keywordEach [] X.env)).all (fun x => x.1.isSome)
      && decide ((e :: es).length + ([] : List Keyword).length + (if ([] : List Keyword).isEmpty then 0 else 1) < 30)) = true := by rfl)
    (hline : (apos.endLine == cpos.line) = true := by rfl) (hs : starEach (e :: es) X.env = (false, eval e X.env) :: starEach es X.env := by rfl) (hplain : (backTo cpos (starEach es X.env)).any (·.1) = false := by rfl) :
    PE X (.Call (.Attribute o name apos) (e :: es) [] cpos) (tBW X.K T r to t) := by
  refine ⟨fun pins s σ H Q I h => ?_⟩
  refine wpAny_Call_method_late hbase hfew hline rfl (thn (ho.run pins s σ H _ I h) fun v s1 ⟨x, H1, I1, r1, ty, q1⟩ => ?_)
  obtain ⟨h1, h2⟩ := tyW_is I1 r1 ty
  refine ⟨T, id, pa, slot, hty, h1, h2, ?_⟩
  have hA := ha.run cpos pins s1 σ H1 _ I1 q1
  rw [hs] at hA ⊢
  refine Calls.callWith_builtin (by show (false || (backTo cpos (starEach es X.env)).any (·.1)) = false; rw [hplain] <;> rfl) (Calls.evalArgs_plain ?_)
  exact thn hA fun us s2 ⟨vs, H2, I2, r2, q2⟩ => hm pins s2 σ H2 x vs v us Q I2 r1 r2 q2
end
end Mi

/-! Mini G: loops; bodies of defs. -/
namespace Mi
open PySem PySem.Spec PyProof.Rows L2

/-! ### what is walked -/
def Walks (X : Cx) (J : It) (xs : List U) (ρ : Rho) (H : Hp) : Prop := ∀ ρ2 H2 i, Up (gx X) ρ H ρ2 H2 → (∀ a, ρ2.wr a → ∃ o, H2 a = some o ∧ MutK o) → i ≤ xs.length →
  (i = xs.length → J.stop i H2) ∧ ∀ u, xs[i]? = some u → J.go i H2 ∧ ∀ x H3, J.yld i H2 x H3 → (H3 = H2 ∨ ∃ p o, H2 p = none ∧ H3 = upd H2 p o) ∧ Rep (gx X) ρ2 H3 u x
def SI (X : Cx) (W : WX) (tg iter : Expr) (m : M (List U)) : Prop :=
  ∃ wi, PI X tg iter wi ∧ ∀ ρ s σ H R, Rl (gx X) ρ s σ H → Ok X W (fun ρ' H' xs J => Walks X J xs ρ' H') ρ σ H (m s) R → wi σ H R
/-- iter(x), by values -/
abbrev RI := V → Hp → (It → Hp → Prop) → Prop
def IterR (X : Cx) (tg : Expr) (r : RI) : Prop := ∀ (pins : List (Addr × Obj)) (s : Shared) (σ : L2.St) (H : Hp) (x : V) (v : Value) (R : It → Hp → Prop), Inv X pins σ H s → RelV x v → r x H R → wpAny (model X.prog X.w) X.A (pyIter v) (PIE X pins σ tg R) X.xe s
section
variable {X : Cx} {W : WX} {e a b c o tg : Expr} {es : List Expr} {m ma mb mc : M U} {ms : M (List U)} {mt : M Bool} {st : Stmt} {rest body orelse : List Stmt} {n n1 n2 : Sm} {g : U → M Unit} {gs : List U → M Unit} {pos : Pos}
theorem IterR.or {r r' : RI} (h : IterR X tg r) (h' : IterR X tg r') : IterR X tg (fun x H R => r x H R ∨ r' x H R) := by
  intro pins s σ H x v R I rx q
  rcases q with q | q
  · exact h pins s σ H x v R I rx q
  · exact h' pins s σ H x v R I rx q
def iBy (r : RI) (td : TE) : TI := fun σ H R => td σ H fun x H1 => r x H1 R
theorem pi_by {r : RI} {t : TE} (hr : IterR X tg r) (he : PE X e t) : PI X tg e (iBy r t) :=
  ⟨fun pins s σ H R I h => thn (he.run pins s σ H _ I h) fun v s1 ⟨x, H1, I1, r1, q1⟩ => hr pins s1 σ H1 x v R I1 r1 q1⟩
def rItL (K : PySem.W.Frag) : RI := fun x H R => ∃ a, x = .ref a ∧ (∃ xs, SqL K H a xs) ∧ R (Itl K a) H
def rItT (K : PySem.W.Frag) : RI := fun x H R => ∃ a, x = .ref a ∧ (∃ xs, SqT K H a xs) ∧ R (Itt K a) H
def rItS : RI := fun x H R => ∃ z, x = .str z ∧ R (Its z) H
def rItK : RI := fun x H R => ∃ d kvs, x = .ref d ∧ ((H d = some (.dK kvs) ∧ ∀ od, R (Itk d od kvs) (upd H d (.frz od (.dK kvs)))) ∨ ∃ od, H d = some (.frz od (.dK kvs)) ∧ R (Itk d od kvs) H)
def rItKT : RI := fun x H R => ∃ d kvs, x = .ref d ∧ ((H d = some (.dT kvs) ∧ ∀ od, R (Itkt d od kvs) (upd H d (.frz od (.dT kvs)))) ∨ ∃ od, H d = some (.frz od (.dT kvs)) ∧ R (Itkt d od kvs) H)
theorem it_list : IterR X tg (rItL X.K) := by
  intro pins s σ H x v R I rx h
  obtain ⟨a, rfl, ⟨xs, hq⟩, q⟩ := h
  cases rx
  obtain ⟨its, rv, p, hz⟩ := I.list hq
  refine wpAny_pyIter_list p.isList ?_
  refine ⟨s.heap.objs.size, [s.heap.objs.size], _, _, H, rfl, I.kept (t' := s.toks) fun b o e => Heap.get?_push_of_some _ e, turn_list a _, ⟨_, Heap.get?_push_size _ rfl, rfl, rfl⟩, fun b hb => ?_, q⟩
  have e : b = s.heap.objs.size := by simpa using hb
  subst e
  exact I.fpOk (Nat.le_refl _) (I.hok.fresh (Nat.le_refl _))
theorem it_tup : IterR X tg (rItT X.K) := by
  intro pins s σ H x v R I rx h
  obtain ⟨a, rfl, ⟨xs, hq⟩, q⟩ := h
  cases rx
  obtain ⟨its, rv, p, hz⟩ := I.tuple hq
  refine wpAny_pyIter_tuple (show s.heap.IsTuple a its.toArray from p) ?_
  refine ⟨s.heap.objs.size, [s.heap.objs.size], _, _, H, rfl, I.kept (t' := s.toks) fun b o e => Heap.get?_push_of_some _ e, turn_tuple a _, ⟨_, Heap.get?_push_size _ rfl, rfl, rfl⟩, fun b hb => ?_, q⟩
  have e : b = s.heap.objs.size := by simpa using hb
  subst e
  exact I.fpOk (Nat.le_refl _) (I.hok.fresh (Nat.le_refl _))
theorem it_str : IterR X tg rItS := by
  intro pins s σ H x v R I rx h
  obtain ⟨x, rfl, q⟩ := h
  obtain ⟨t, rfl⟩ := rx
  cases ha : x.cps.all (· < 128)
  · exact wpAny_pyIter_wide ha (pi_one (tk := s.toks) I _ (turn_str _ x t "str_iterator" (.inr rfl)) ⟨_, Heap.get?_push_size _ rfl, rfl, rfl⟩ q)
  · exact wpAny_pyIter_ascii ha (pi_one (tk := s.toks) I _ (turn_str _ x t "str_ascii_iterator" (.inl rfl)) ⟨_, Heap.get?_push_size _ rfl, rfl, rfl⟩ q)
theorem it_frzK {pins : List (Addr × Obj)} {s : Shared} {σ : L2.St} {H : Hp} {d : Addr} {od : Obj} {kvs : List (Key × V)} {R : It → Hp → Prop} (I : Inv X pins σ H s) (hd : H d = some (.frz od (.dK kvs))) (q : R (Itk d od kvs) H) :
    wpAny (model X.prog X.w) X.A (pyIter (.ref d)) (PIE X pins σ tg R) X.xe s := by
  obtain ⟨hs, hgd, hx, es, ep, vs, hdt, hsz, kv, hm⟩ := I.frzK hd
  refine iter_keys hs hgd hx hdt (pi_one (tk := s.toks) I _ (turn_keys _ hdt) ⟨_, Heap.get?_push_size _ rfl, rfl, ?_⟩ q)
  rw [hsz] <;> rfl
theorem it_frzT {pins : List (Addr × Obj)} {s : Shared} {σ : L2.St} {H : Hp} {d : Addr} {od : Obj} {kvs : List (List Key × V)} {R : It → Hp → Prop} (I : Inv X pins σ H s) (hd : H d = some (.frz od (.dT kvs))) (q : R (Itkt d od kvs) H) :
    wpAny (model X.prog X.w) X.A (pyIter (.ref d)) (PIE X pins σ tg R) X.xe s := by
  obtain ⟨hs, hgd, hx, es, ep, hdt, hsz, ent⟩ := I.frzT hd
  refine iter_keys hs hgd hx hdt (pi_one (tk := s.toks) I _ (turn_keysT _ hdt) ⟨_, Heap.get?_push_size _ rfl, rfl, ?_⟩ q)
  rw [hsz] <;> rfl
theorem it_keys : IterR X tg rItK := by
  intro pins s σ H x v R I rx h
  obtain ⟨d, kvs, rfl, h⟩ := h
  cases rx
  rcases h with ⟨e, q⟩ | ⟨od, e, q⟩
  · obtain ⟨od, I'⟩ := I.lock e trivial
    exact it_frzK I' upd_same (q od)
  · exact it_frzK I e q
theorem it_keysT : IterR X tg rItKT := by
  intro pins s σ H x v R I rx h
  obtain ⟨d, kvs, rfl, h⟩ := h
  cases rx
  rcases h with ⟨e, q⟩ | ⟨od, e, q⟩
  · obtain ⟨od, I'⟩ := I.lock e trivial
    exact it_frzT I' upd_same (q od)
  · exact it_frzT I e q
abbrev rItA (K : PySem.W.Frag) : RI := fun x H R => rItL K x H R ∨ rItT K x H R ∨ rItS x H R ∨ rItK x H R ∨ rItKT x H R
theorem it_any : IterR X tg (rItA X.K) := it_list.or (it_tup.or (it_str.or (it_keys.or it_keysT)))

/-- the items of a content -/
def kU : Key → U
  | .inl i => .int i
  | .inr x => .str x
def itemsU : U → M (List U)
  | .lst us => ret us
  | .kl us => ret us
  | .tup us => ret us
  | .str x => ret (x.cps.toList.map fun c => .str ⟨#[c]⟩)
  | .dK kvs => ret (kvs.map fun q => kU q.1)
  | .dT kvs => ret (kvs.map fun q => .tup (q.1.map kU))
  | _ => stk
theorem kU_rep {G : Gx} {ρ : Rho} {H : Hp} (k : Key) : Rep G ρ H (kU k) (kV k) := by
  cases k with
  | inl i => exact .int
  | inr x => exact .str
theorem kUs_rep {G : Gx} {ρ : Rho} {H : Hp} : ∀ ks : List Key, Reps G ρ H (ks.map kU) (ks.map kV)
  | [] => .nil
  | k :: ks => .cons (kU_rep k) (kUs_rep ks)
theorem RepD.keys {G : Gx} {ρ : Rho} {H : Hp} : ∀ {us : List (Key × U)} {vs : List (Key × V)}, RepD G ρ H us vs → us.map (·.1) = vs.map (·.1)
  | _, _, .nil => rfl
  | _, _, .cons _ r => congrArg _ r.keys
theorem RepT.keys {G : Gx} {ρ : Rho} {H : Hp} : ∀ {us : List (List Key × U)} {vs : List (List Key × V)}, RepT G ρ H us vs → us.map (·.1) = vs.map (·.1)
  | _, _, .nil => rfl
  | _, _, .cons _ r => congrArg _ r.keys
theorem lock_up {G : Gx} {ρ : Rho} {H : Hp} {d : Addr} {od : Obj} {o : HO} (h : H d = some o) (i : isD o) (n : ¬ ρ.wr d) : Ext G ρ H ρ (upd H d (.frz od o)) := by
  refine ⟨⟨fun a q e na _ => ⟨?_, na⟩, fun _ _ e => e⟩, rfl, fun a q z e _ => ?_⟩
  · by_cases z : a = d
    · subst z; rw [h] at e; cases e; exact .inr ⟨od, upd_same, i⟩
    · exact .inl (by rw [upd_ne z]; exact e)
  · rw [upd_ne (fun y => n (by rw [← y]; exact Rho.At.wr (.z z)))]; exact e
theorem lock_rl {G : Gx} {t : Option Addr} {ρ : Rho} {s : MS} {σ : L2.St} {H : Hp} {d : Addr} {od : Obj} {o : HO} (R : RlT G t ρ s σ H) (h : H d = some o) (i : isD o) (n : ¬ ρ.wr d) : RlT G t ρ s σ (upd H d (.frz od o)) :=
  R.move (lock_up h i n).toUp fun a q w e => by rw [upd_ne (fun y => n (by rw [← y]; exact w))]; exact e
theorem nw_tup {ρ2 : Rho} {H2 : Hp} {q : Addr} {xs : List V} (occ : ∀ a, ρ2.wr a → ∃ o, H2 a = some o ∧ MutK o) (e : H2 q = some (.tup xs)) : ¬ ρ2.wr q := fun w => by
  obtain ⟨o, h, m⟩ := occ q w
  rw [e] at h; cases h; exact m
theorem walks_list {ρ : Rho} {H : Hp} {a : Addr} {us : List U} {vs : List V} (h : KlR (gx X) ρ H a vs) (r : Reps (gx X) ρ H us vs) : Walks X (Itl X.K a) us ρ H := by
  intro ρ2 H2 i U occ hi
  have q := (U.klR h).sq
  have r2 := r.up U
  refine ⟨fun e => ⟨vs, q, by rw [e, r2.length]; exact Nat.le_refl _⟩, fun u e => ?_⟩
  obtain ⟨v, e1, rv⟩ := r2.get e
  refine ⟨⟨vs, v, q, e1⟩, fun x H3 y => ?_⟩
  obtain ⟨rfl, y⟩ := y
  have := y vs q
  rw [e1] at this; cases this
  exact ⟨.inl rfl, rv⟩
theorem walks_tup {ρ : Rho} {H : Hp} {a : Addr} {us : List U} {vs : List V} (h : TupR (gx X) ρ H a vs) (r : Reps (gx X) ρ H us vs) : Walks X (Itt X.K a) us ρ H := by
  intro ρ2 H2 i U occ hi
  have q := (U.tupR h).sq
  have r2 := r.up U
  refine ⟨fun e => ⟨vs, q, by rw [e, r2.length]; exact Nat.le_refl _⟩, fun u e => ?_⟩
  obtain ⟨v, e1, rv⟩ := r2.get e
  refine ⟨⟨vs, v, q, e1⟩, fun x H3 y => ?_⟩
  obtain ⟨rfl, y⟩ := y
  have := y vs q
  rw [e1] at this; cases this
  exact ⟨.inl rfl, rv⟩
theorem walks_str {ρ : Rho} {H : Hp} {x : Str} : Walks X (Its x) (x.cps.toList.map fun c => U.str ⟨#[c]⟩) ρ H := by
  intro ρ2 H2 i U occ hi
  refine ⟨fun e => by subst e; simp [Its], fun u e => ?_⟩
  rw [List.getElem?_map] at e
  obtain ⟨c, e1, rfl⟩ := Option.map_eq_some_iff.mp e
  have hc : x.cps[i]? = some c := by simpa using e1
  refine ⟨?_, fun v H3 y => ?_⟩
  · exact (Array.getElem?_eq_some_iff.mp hc).1
  · obtain ⟨rfl, c', e2, rfl⟩ := y
    rw [hc] at e2; cases e2
    exact ⟨.inl rfl, .str⟩
theorem walks_range {ρ : Rho} {H : Hp} {lo : Int} {n : Nat} : Walks X (Itr lo n) ((List.range n).map fun (i : Nat) => U.int (lo + i)) ρ H := by
  intro ρ2 H2 i U occ hi
  refine ⟨fun e => by subst e; simp [Itr], fun u e => ?_⟩
  rw [List.getElem?_map] at e
  obtain ⟨c, e1, rfl⟩ := Option.map_eq_some_iff.mp e
  obtain ⟨h1, h2⟩ := List.getElem?_eq_some_iff.mp e1
  rw [List.length_range] at h1
  rw [List.getElem_range] at h2
  subst h2
  refine ⟨h1, fun v H3 y => ?_⟩
  obtain ⟨rfl, rfl⟩ := y
  exact ⟨.inl rfl, .int⟩
theorem kept_frz {ρ ρ2 : Rho} {H H2 : Hp} {d : Addr} {od : Obj} {o : HO} (U : Up (gx X) ρ H ρ2 H2) (h : H d = some (.frz od o)) (n : ¬ ρ.wr d) : H2 d = some (.frz od o) := (U.keep d _ h n trivial).1.same id
theorem walks_keys {ρ : Rho} {H : Hp} {d : Addr} {od : Obj} {us : List (Key × U)} {kvs : List (Key × V)} (h : H d = some (.frz od (.dK kvs))) (n : ¬ ρ.wr d) (ek : us.map (·.1) = kvs.map (·.1)) : Walks X (Itk d od kvs) (us.map fun q => kU q.1) ρ H := by
  intro ρ2 H2 i U occ hi
  have q := kept_frz U h n
  have el : us.length = kvs.length := by simpa using congrArg List.length ek
  refine ⟨fun e => ⟨q, by rw [e]; simp [el]⟩, fun u e => ?_⟩
  rw [List.getElem?_map] at e
  obtain ⟨p, e1, rfl⟩ := Option.map_eq_some_iff.mp e
  have e2 : (us.map (·.1))[i]? = some p.1 := by rw [List.getElem?_map, e1]; rfl
  rw [ek, List.getElem?_map] at e2
  obtain ⟨p', e3, e4⟩ := Option.map_eq_some_iff.mp e2
  refine ⟨⟨q, (List.getElem?_eq_some_iff.mp e3).1⟩, fun v H3 y => ?_⟩
  obtain ⟨rfl, k, z, e5, rfl⟩ := y
  rw [e3] at e5; cases e5
  refine ⟨.inl rfl, ?_⟩
  show Rep _ _ _ (kU p.1) (kV k)
  rw [← e4]; exact kU_rep _
theorem walks_keysT {ρ : Rho} {H : Hp} {d : Addr} {od : Obj} {us : List (List Key × U)} {kvs : List (List Key × V)} (h : H d = some (.frz od (.dT kvs))) (n : ¬ ρ.wr d) (ek : us.map (·.1) = kvs.map (·.1)) : Walks X (Itkt d od kvs) (us.map fun q => .tup (q.1.map kU)) ρ H := by
  intro ρ2 H2 i U occ hi
  have q := kept_frz U h n
  have el : us.length = kvs.length := by simpa using congrArg List.length ek
  refine ⟨fun e => ⟨q, by rw [e]; simp [el]⟩, fun u e => ?_⟩
  rw [List.getElem?_map] at e
  obtain ⟨p, e1, rfl⟩ := Option.map_eq_some_iff.mp e
  have e2 : (us.map (·.1))[i]? = some p.1 := by rw [List.getElem?_map, e1]; rfl
  rw [ek, List.getElem?_map] at e2
  obtain ⟨p', e3, e4⟩ := Option.map_eq_some_iff.mp e2
  refine ⟨⟨q, (List.getElem?_eq_some_iff.mp e3).1⟩, fun v H3 y => ?_⟩
  obtain ⟨rfl, k, z, qa, e5, rfl, e6⟩ := y
  rw [e3] at e5; cases e5
  refine ⟨.inl rfl, ?_⟩
  show Rep _ _ _ (.tup (p.1.map kU)) (.ref qa)
  have e4 : k = p.1 := e4
  rw [← e4]; exact .tup (.of e6 (nw_tup occ e6)) (kUs_rep _)
theorem Ok.ext {α β : Type} {R1 : Rho → Hp → α → β → Prop} {ρ ρ' : Rho} {σ : L2.St} {H H' : Hp} {r : Res MS α} {Q : β → Hp → Prop} (h : Ok X W R1 ρ σ H r Q) (x : Ext (gx X) ρ H ρ' H') : Ok X W R1 ρ' σ H' r Q := by
  cases r with
  | ok u s2 => exact fun ρ2 H2 v x2 R2 => h ρ2 H2 v (x.trans x2) R2
  | err y s2 => exact fun ρ2 H2 c2 d2 x2 R2 r2 => h ρ2 H2 c2 d2 (x.trans x2) R2 r2
  | stuck => exact h
/-- whatever stands by value, walked -/
theorem si_any (h : SE X W e m) : SI X W tg e (bd m itemsU) := by
  obtain ⟨t, p, h⟩ := h
  refine ⟨_, pi_by it_any p, fun ρ s σ H R Rr k => h ρ s σ H _ Rr (k.bd fun u s1 ρ1 H1 v _ x1 R1 r1 h1 => ?_)⟩
  cases r1 with
  | lst h r => exact .inl ⟨_, rfl, ⟨_, h.sq⟩, h1.ret R1 (walks_list (.inl ⟨.inl h.1, h.2⟩) r)⟩
  | kl h r => exact .inl ⟨_, rfl, ⟨_, h.sq⟩, h1.ret R1 (walks_list h r)⟩
  | tup h r => exact .inr (.inl ⟨_, rfl, ⟨_, h.sq⟩, h1.ret R1 (walks_tup h r)⟩)
  | str => exact .inr (.inr (.inl ⟨_, rfl, h1.ret R1 walks_str⟩))
  | @dK us d kvs h n r =>
    refine .inr (.inr (.inr (.inl ⟨d, kvs, rfl, ?_⟩)))
    rcases h with h | ⟨od, h⟩
    · exact .inl ⟨h, fun od => h1.ret' (lock_up h trivial n) (lock_rl R1 h trivial n) (walks_keys upd_same n r.keys)⟩
    · exact .inr ⟨od, h, h1.ret R1 (walks_keys h n r.keys)⟩
  | @dT us d kvs h n r =>
    refine .inr (.inr (.inr (.inr ⟨d, kvs, rfl, ?_⟩)))
    rcases h with h | ⟨od, h⟩
    · exact .inl ⟨h, fun od => h1.ret' (lock_up h trivial n) (lock_rl R1 h trivial n) (walks_keysT upd_same n r.keys)⟩
    · exact .inr ⟨od, h, h1.ret R1 (walks_keysT h n r.keys)⟩
  | _ => exact h1.elim
def rng1 : List U → M (List U)
  | [.int j] => when (decide (-(2 ^ 62) ≤ j) && decide (j < 2 ^ 62)) (ret ((List.range j.toNat).map fun (i : Nat) => .int (0 + i)))
  | _ => stk
def rng2 : List U → M (List U)
  | [.int i, .int j] => when (decide (-(2 ^ 62) ≤ i) && decide (i < 2 ^ 62) && decide (-(2 ^ 62) ≤ j) && decide (j < 2 ^ 62)) (ret ((List.range (j - i).toNat).map fun (k : Nat) => .int (i + k)))
  | _ => stk
theorem si_range1 {p : Pos} (hg : Gl X "range") (hm : X.mg "range" = none) (ha : SA X W [a] ms) (hs : starEach [a] X.env = [(false, eval a X.env)] := by rfl) : SI X W tg (.Call (.Name "range" p) [a] [] pos) (bd ms rng1) := by
  obtain ⟨⟨t, q, h⟩, _⟩ := ha
  refine ⟨_, pi_range1 hg hm q hs, fun ρ s σ H R Rr k => h ρ s σ H _ Rr (k.bd fun us s1 ρ1 H1 vs _ x1 R1 r1 h1 => ?_)⟩
  unfold rng1 at h1
  split at h1
  · rename_i j
    cases r1 with
    | cons a1 r1 =>
      cases r1
      cases a1
      obtain ⟨e, h2⟩ := h1.when
      rw [Bool.and_eq_true] at e
      exact ⟨_, rfl, of_decide_eq_true e.1, of_decide_eq_true e.2, h2.ret R1 walks_range⟩
  · exact h1.elim
theorem si_range2 {p : Pos} (hg : Gl X "range") (hm : X.mg "range" = none) (ha : SA X W [a, b] ms) (hs : starEach [a, b] X.env = [(false, eval a X.env), (false, eval b X.env)] := by rfl) (hs2 : starEach [b] X.env = [(false, eval b X.env)] := by rfl) :
    SI X W tg (.Call (.Name "range" p) [a, b] [] pos) (bd ms rng2) := by
  obtain ⟨⟨t, q, h⟩, _⟩ := ha
  refine ⟨_, pi_range2 hg hm q hs hs2, fun ρ s σ H R Rr k => h ρ s σ H _ Rr (k.bd fun us s1 ρ1 H1 vs _ x1 R1 r1 h1 => ?_)⟩
  unfold rng2 at h1
  split at h1
  · rename_i i j
    cases r1 with
    | cons a1 r1 =>
      cases r1 with
      | cons a2 r1 =>
        cases r1
        cases a1
        cases a2
        obtain ⟨e, h2⟩ := h1.when
        simp only [Bool.and_eq_true, decide_eq_true_eq] at e
        exact ⟨_, _, rfl, ⟨e.1.1.1, e.1.1.2, e.1.2, e.2⟩, h2.ret R1 walks_range⟩
  · exact h1.elim

/-! ### for -/
def forL (g : U → M Unit) (b : Sm) : List U → Sm
  | [] => ret .nx
  | x :: xs => bd (g x) fun _ => fun s => match b s with
    | .ok .nx s' => forL g b xs s'
    | .ok .ct s' => forL g b xs s'
    | .ok .bk s' => .ok .nx s'
    | r => r
theorem ss_for {mi : M (List U)} {iter : Expr} (hp : PassesOwn (model X.prog X.w) X.A X.env X.xe) (hc : X.calm = true) (hi : SI X W tg iter mi) (hg : SG X W tg g) (hb : SSs X W body n) (hs : ∀ x, foldedSetIterable iter X.env x = pure x := by intro _; rfl) :
    SS X W (.For tg iter body [] pos) (bd mi fun xs => forL g n xs) := by
  obtain ⟨wi, pi, hi⟩ := hi
  obtain ⟨tg', pg, hg⟩ := hg
  obtain ⟨tb, pb, hb⟩ := hb
  refine ⟨_, ps_for hp hc pi pg pb hs, fun ρ s σ H D R k => hi ρ s σ H _ R (OkS.bdE k fun xs s1 ρ1 H1 J _ x1 R1 wk h1 => ?_)⟩
  refine ⟨fun i m σ2 H2 => m = xs.length - i ∧ i ≤ xs.length ∧ ∃ ρ2 s2, Ext (gx X) ρ1 H1 ρ2 H2 ∧ Rl (gx X) ρ2 s2 σ2 H2 ∧ OkS X W ρ2 H2 (forL g n (xs.drop i) s2) D, ⟨xs.length, by simp, Nat.zero_le _, ρ1, s1, Ext.refl, R1, h1⟩, ?_⟩
  rintro i m σ2 H2 ⟨rfl, hi, ρ2, s2, x2, R2, h2⟩
  obtain ⟨stop, go⟩ := wk ρ2 H2 i x2.toUp R2.occK hi
  by_cases hlt : i < xs.length
  · have e : xs.drop i = xs[i] :: xs.drop (i + 1) := List.drop_eq_getElem_cons hlt
    rw [e] at h2
    obtain ⟨gg, yy⟩ := go xs[i] (by simp [hlt])
    refine .inr ⟨gg, fun σ' H' => ∃ ρ3 s3, Ext (gx X) ρ1 H1 ρ3 H' ∧ Rl (gx X) ρ3 s3 σ' H' ∧ OkS X W ρ3 H' (forL g n (xs.drop (i + 1)) s3) D, fun σ' H' q => ⟨xs.length - (i + 1), by omega, rfl, hlt, q⟩, fun x H3 y => ?_⟩
    obtain ⟨hx, rx⟩ := yy x H3 y
    have lay : Ext (gx X) ρ2 H2 ρ2 H3 ∧ Rl (gx X) ρ2 s2 σ2 H3 := by
      rcases hx with rfl | ⟨p, o, hp, rfl⟩
      · exact ⟨Ext.refl, R2⟩
      · exact ⟨R2.laidExt hp, R2.laid hp⟩
    have h3 := OkS.ext h2 lay.1
    refine hg ρ2 s2 σ2 H3 xs[i] x _ lay.2 rx (OkG.bdS h3 fun s4 ρ4 σ4 H4 _ x4 R4 h4 => ?_)
    refine hb ρ4 s4 σ4 H4 _ R4 ?_
    have X4 := (x2.trans lay.1).trans x4
    cases q : n s4 with
    | ok fl s5 =>
      rw [q] at h4
      cases fl with
      | nx => exact fun ρ5 σ5 H5 x5 R5 => ⟨ρ5, s5, X4.trans x5, R5, OkS.ext h4 x5⟩
      | ct => exact fun ρ5 σ5 H5 x5 R5 => ⟨ρ5, s5, X4.trans x5, R5, OkS.ext h4 x5⟩
      | bk => exact fun ρ5 σ5 H5 x5 R5 => h4 ρ5 σ5 H5 x5 R5
      | rt u => exact fun ρ5 σ5 H5 v x5 R5 r5 => h4 ρ5 σ5 H5 v x5 R5 r5
    | err y s5 => rw [q] at h4; exact fun ρ5 σ5 H5 cls d x5 R5 r5 => h4 ρ5 σ5 H5 cls d x5 R5 r5
    | stuck => rw [q] at h4; exact h4
  · have e : i = xs.length := by omega
    subst e
    rw [List.drop_length] at h2
    exact .inl ⟨stop rfl, h2 ρ2 σ2 H2 Ext.refl R2⟩

/-! ### while -/
def whileN (c : M Bool) (b : Sm) : Nat → Sm
  | 0 => stk
  | k + 1 => bd c fun t => bif t then (fun s => match b s with
    | .ok .nx s' => whileN c b k s'
    | .ok .ct s' => whileN c b k s'
    | .ok .bk s' => .ok .nx s'
    | r => r) else ret .nx
open Classical in
noncomputable def whileM (c : M Bool) (b : Sm) : Sm := fun s => if h : ∃ k, whileN c b k s ≠ .stuck then whileN c b (Classical.choose h) s else .stuck
theorem whileN_mono {c : M Bool} {b : Sm} : ∀ {k : Nat} {s : MS}, whileN c b k s ≠ .stuck → ∀ j, whileN c b (k + j) s = whileN c b k s
  | 0, s, h, j => (h rfl).elim
  | k + 1, s, h, j => by
    rw [show k + 1 + j = (k + j) + 1 by omega]
    unfold whileN at h ⊢
    unfold bd at h ⊢
    cases q : c s with
    | err => rfl
    | stuck => rfl
    | ok t s1 =>
      rw [q] at h
      dsimp only at h ⊢
      cases t with
      | false => rfl
      | true =>
        simp only [cond_true] at h ⊢
        cases q2 : b s1 with
        | err => rfl
        | stuck => rfl
        | ok fl s2 =>
          rw [q2] at h
          cases fl with
          | nx => exact whileN_mono h j
          | ct => exact whileN_mono h j
          | bk => rfl
          | rt u => rfl
theorem whileM_eq {c : M Bool} {b : Sm} {k : Nat} {s : MS} {r : Res MS Fl} (h : whileN c b k s = r) (hr : r ≠ .stuck) : whileM c b s = r := by
  have ex : ∃ k, whileN c b k s ≠ .stuck := ⟨k, by rw [h]; exact hr⟩
  unfold whileM
  rw [dif_pos ex]
  have h1 := whileN_mono (Classical.choose_spec ex) k
  have h2 := whileN_mono (k := k) (s := s) (by rw [h]; exact hr) (Classical.choose ex)
  rw [Nat.add_comm, h2, h] at h1
  exact h1.symm
theorem ss_while (hp : PassesOwn (model X.prog X.w) X.A X.env X.xe) (hc : ST X W c mt) (hb : SSs X W body n) : SS X W (.While c body [] pos) (whileM mt n) := by
  obtain ⟨tc, pc, hc⟩ := hc
  obtain ⟨tb, pb, hb⟩ := hb
  refine ⟨_, ps_while hp pc pb, fun ρ s σ H D R k => ?_⟩
  obtain ⟨k0, hk⟩ : ∃ k0, OkS X W ρ H (whileN mt n k0 s) D := by
    unfold whileM at k
    split at k
    · exact ⟨_, k⟩
    · exact k.elim
  refine ⟨fun m σ2 H2 => ∃ ρ2 s2, Rl (gx X) ρ2 s2 σ2 H2 ∧ OkS X W ρ2 H2 (whileN mt n m s2) D, ⟨k0, ρ, s, R, hk⟩, ?_⟩
  rintro m σ2 H2 ⟨ρ2, s2, R2, h2⟩
  cases m with
  | zero => exact h2.elim
  | succ m =>
    unfold whileN at h2
    refine hc ρ2 s2 σ2 H2 _ R2 (OkS.bdE h2 fun t s3 ρ3 H3 t' _ x3 R3 e3 h3 => ?_)
    subst e3
    cases t with
    | false => rw [if_neg Bool.false_ne_true]; exact h3 ρ3 σ2 H3 Ext.refl R3
    | true =>
      rw [if_pos rfl]
      refine ⟨fun σ' H' => ∃ ρ4 s4, Rl (gx X) ρ4 s4 σ' H' ∧ OkS X W ρ4 H' (whileN mt n m s4) D, fun σ' H' q => ⟨m, Nat.lt_succ_self _, q⟩, ?_⟩
      refine hb ρ3 s3 σ2 H3 _ R3 ?_
      simp only [cond_true] at h3
      cases q : n s3 with
      | ok fl s5 =>
        rw [q] at h3
        cases fl with
        | nx => exact fun ρ5 σ5 H5 x5 R5 => ⟨ρ5, s5, R5, OkS.ext h3 x5⟩
        | ct => exact fun ρ5 σ5 H5 x5 R5 => ⟨ρ5, s5, R5, OkS.ext h3 x5⟩
        | bk => exact fun ρ5 σ5 H5 x5 R5 => h3 ρ5 σ5 H5 x5 R5
        | rt u => exact fun ρ5 σ5 H5 v x5 R5 r5 => h3 ρ5 σ5 H5 v x5 R5 r5
      | err y s5 => rw [q] at h3; exact fun ρ5 σ5 H5 cls d x5 R5 r5 => h3 ρ5 σ5 H5 cls d x5 R5 r5
      | stuck => rw [q] at h3; exact h3
end

/-! ### a def's body -/
def mkF (nl : Nat) (m : Sm) : F := fun args st => match m ⟨args.map Sl.val ++ List.replicate (nl - args.length) Sl.no, st⟩ with
  | .ok (.rt u) s => .ok u s.st
  | .ok .nx s => .ok .non s.st
  | .err x s => .err x s.st
  | _ => .stuck
theorem rl_start {G : Gx} {ρ : Rho} {st us : List U} {vs : List V} {H : Hp} {N : List Str} (R : Rl G ρ ⟨[], st⟩ [] H) (r : Reps G ρ H us vs) : Rl G ρ ⟨us.map Sl.val ++ List.replicate (N.length - us.length) Sl.no, st⟩ (L2.start N vs) H := by
  have eo : ∀ i a, ρ.os i ≠ some a := fun i a h => by
    obtain ⟨u, q⟩ := R.os i a h
    simp at q
  have get : ∀ {i : Nat} {x : Sl}, (us.map Sl.val ++ List.replicate (N.length - us.length) Sl.no)[i]? = some x → x = .no ∨ ∃ u, x = .val u ∧ us[i]? = some u := fun {i x} e => by
    by_cases l : i < us.length
    · rw [List.getElem?_append_left (by simpa using l), List.getElem?_map] at e
      obtain ⟨u, e1, rfl⟩ := Option.map_eq_some_iff.mp e
      exact .inr ⟨u, rfl, e1⟩
    · rw [List.getElem?_append_right (by simpa using l), List.getElem?_replicate] at e
      split at e
      · cases e; exact .inl rfl
      · cases e
  refine ⟨?_, fun i u e => ?_, fun i u e => ?_, fun i a e => (eo i a e).elim, R.sto, R.ss, R.dj, R.occ, R.tm⟩
  · unfold L2.start
    simp [r.length]
  · rcases get e with q | ⟨w, q, h⟩
    · cases q
    · cases q
      obtain ⟨v, h1, h2⟩ := r.get h
      refine ⟨v, ?_, h2⟩
      unfold L2.start
      have l : i < vs.length := (List.getElem?_eq_some_iff.mp h1).1
      rw [List.getElem?_append_left (by simpa using l), List.getElem?_map, h1]
      rfl
  · rcases get e with q | ⟨w, q, _⟩ <;> cases q
/-- what is the frame's own goes at its end -/
theorem rl_end {G : Gx} {ρ ρ' : Rho} {s : MS} {σ : L2.St} {H H' : Hp} (R : Rl G ρ s σ H) : Rl G { ρ with os := fun _ => none } ⟨[], s.st⟩ [] H ∧ Ext G ρ H { ρ with os := fun _ => none } H := by
  have at_ : ∀ {o a}, ({ ρ with os := fun _ => none } : Rho).At o a → ρ.At o a := fun {o a} h => by
    cases h with
    | s h => cases h
    | j h => exact .j h
    | t h => exact .t h
    | z h => exact .z h
  have wr : ∀ {a}, ({ ρ with os := fun _ => none } : Rho).wr a → ρ.wr a := fun {a} h => by
    obtain ⟨o, h⟩ := Rho.wr_iff.mp h
    exact (at_ h).wr
  have x : Ext G ρ H { ρ with os := fun _ => none } H := ⟨Up.same (fun _ h => wr h) fun _ _ e => e, rfl, fun _ _ _ e _ => e⟩
  exact ⟨⟨rfl, fun i u e => by simp at e, fun i u e => by simp at e, fun i a e => (nomatch e), fun j u e => let ⟨a, h, r⟩ := R.sto j u e; ⟨a, h, r.up x.toUp fun _ e => e⟩, R.ss, fun o o' a h h' => R.dj o o' a (at_ h) (at_ h'), fun a w => R.occ a (wr w), R.tm⟩, x⟩
theorem fnM {P : Program} {w : World} {G : Gx} {base : Heap} {x qual : Str} {params : Arguments} {body : List Stmt} {scope : Scope} {dvs : List V} {kws : List (Str × V)} {f : Addr} {fd : FuncData} {N ps : List Str} {k : Nat} {m : Sm}
    (Fd : FunD G.K x qual params body scope dvs kws f fd) (S : FnScope N ps scope)
    (hb : ∀ (cdv : Value) (A : Around) (outer : List Env) (s : Shared) (H : Hp) (E : XK), Room k (A.deeper (envOfC qual scope s.heap.objs.size f cdv)) →
      SSs (cxOf (L2.CX P w) P w G.K G.mg base N qual scope f cdv A outer s H E) (fun cls d _ H => E cls d H) body m) : FnM P w G base (k + 1) f fd ps (mkF N.length m) := by
  refine Fd.ok S (fun vs H Q E h => h.1) fun cdv A outer s H vs Q E hr h => ?_
  obtain ⟨t, p, q⟩ := hb cdv A outer s H E hr
  refine ⟨t, p, ?_⟩
  obtain ⟨hl, ρ, st, us, R, r, h⟩ := h
  refine q ρ _ _ H _ (rl_start (N := N) R r) ?_
  unfold mkF at h
  cases z : m ⟨us.map Sl.val ++ List.replicate (N.length - us.length) Sl.no, st⟩ with
  | ok fl s' =>
    rw [z] at h
    cases fl with
    | nx =>
      intro ρ' σ' H' x R'
      obtain ⟨R2, x2⟩ := rl_end (ρ' := ρ') (H' := H') R'
      exact h _ H' .non (x.trans x2) R2 .non
    | rt u =>
      intro ρ' σ' H' v x R' r'
      obtain ⟨R2, x2⟩ := rl_end (ρ' := ρ') (H' := H') R'
      exact h _ H' v (x.trans x2) R2 (r'.up x2.toUp)
    | bk => exact h.elim
    | ct => exact h.elim
  | err y s' =>
    rw [z] at h
    intro ρ' σ' H' cls d x R' r'
    obtain ⟨R2, x2⟩ := rl_end (ρ' := ρ') (H' := H') R'
    exact h _ H' cls d (x.trans x2) R2 (r'.up x2.toUp fun _ _ _ e => e)
  | stuck => rw [z] at h; exact h.elim
end Mi

/-! Mini H: comprehensions. -/
namespace Mi
open PySem PySem.Spec PyProof.Rows L2

/-! ### slots of a block -/
def wipeE (e : List Sl) : List Nat → List Sl
  | [] => e
  | v :: vs => (wipeE e vs).set v .no
/-- the block's slots as they were ahead of it -/
def backE (e0 e : List Sl) : List Nat → List Sl
  | [] => e
  | v :: vs => (backE e0 e vs).set v (e0.getD v .no)
def noOwn (e : List Sl) (vs : List Nat) : Bool := vs.all fun i => match e.getD i .no with
  | .own _ => false
  | _ => true
theorem wipe_get {σ : L2.St} {j : Nat} : ∀ {vs : List Nat}, (wipe σ vs)[j]? = if j ∈ vs then (if j < σ.length then some none else none) else σ[j]?
  | [] => rfl
  | v :: vs => by
    unfold wipe
    by_cases h : v = j
    · subst h
      rw [if_pos (by simp)]
      by_cases l : v < σ.length
      · rw [if_pos l, List.getElem?_set_self (by rw [wipe_length]; exact l)]
      · rw [if_neg l, List.getElem?_eq_none (by rw [List.length_set, wipe_length]; omega)]
    · rw [List.getElem?_set_ne h, wipe_get (vs := vs)]
      by_cases m : j ∈ vs
      · rw [if_pos m, if_pos (List.mem_cons_of_mem _ m)]
      · rw [if_neg m, if_neg (by simp only [List.mem_cons, not_or]; exact ⟨fun z => h z.symm, m⟩)]
theorem wipeE_length {e : List Sl} : ∀ {vs : List Nat}, (wipeE e vs).length = e.length
  | [] => rfl
  | v :: vs => by unfold wipeE; rw [List.length_set, wipeE_length]
theorem wipeE_get {e : List Sl} {j : Nat} : ∀ {vs : List Nat}, (wipeE e vs)[j]? = if j ∈ vs then (if j < e.length then some .no else none) else e[j]?
  | [] => rfl
  | v :: vs => by
    unfold wipeE
    by_cases h : v = j
    · subst h
      rw [if_pos (by simp)]
      by_cases l : v < e.length
      · rw [if_pos l, List.getElem?_set_self (by rw [wipeE_length]; exact l)]
      · rw [if_neg l, List.getElem?_eq_none (by rw [List.length_set, wipeE_length]; omega)]
    · rw [List.getElem?_set_ne h, wipeE_get (vs := vs)]
      by_cases m : j ∈ vs
      · rw [if_pos m, if_pos (List.mem_cons_of_mem _ m)]
      · rw [if_neg m, if_neg (by simp only [List.mem_cons, not_or]; exact ⟨fun z => h z.symm, m⟩)]
theorem backE_length {e0 e : List Sl} : ∀ {vs : List Nat}, (backE e0 e vs).length = e.length
  | [] => rfl
  | v :: vs => by unfold backE; rw [List.length_set, backE_length]
theorem backE_get {e0 e : List Sl} {j : Nat} : ∀ {vs : List Nat}, (backE e0 e vs)[j]? = if j ∈ vs then (if j < e.length then some (e0.getD j .no) else none) else e[j]?
  | [] => rfl
  | v :: vs => by
    unfold backE
    by_cases h : v = j
    · subst h
      rw [if_pos (by simp)]
      by_cases l : v < e.length
      · rw [if_pos l, List.getElem?_set_self (by rw [backE_length]; exact l)]
      · rw [if_neg l, List.getElem?_eq_none (by rw [List.length_set, backE_length]; omega)]
    · rw [List.getElem?_set_ne h, backE_get (vs := vs)]
      by_cases m : j ∈ vs
      · rw [if_pos m, if_pos (List.mem_cons_of_mem _ m)]
      · rw [if_neg m, if_neg (by simp only [List.mem_cons, not_or]; exact ⟨fun z => h z.symm, m⟩)]
theorem wipe_eq {σ σ' : L2.St} {vs : List Nat} (hl : σ'.length = σ.length) (h : ∀ i, i ∉ vs → σ'[i]? = σ[i]?) : wipe σ' vs = wipe σ vs := by
  apply List.ext_getElem?
  intro j
  rw [wipe_get, wipe_get, hl]
  by_cases m : j ∈ vs
  · rw [if_pos m, if_pos m]
  · rw [if_neg m, if_neg m, h j m]
theorem wipe_wipe {σ : L2.St} {vs : List Nat} : wipe (wipe σ vs) vs = wipe σ vs := wipe_eq (wipe_length σ vs) fun i m => by rw [wipe_get, if_neg m]

/-- owners at the slots vs are dropped -/
def Rho.drop (ρ : Rho) (vs : List Nat) : Rho := { ρ with os := fun j => if j ∈ vs then none else ρ.os j }
/-- D is nobody's to touch -/
def Rho.pin (ρ : Rho) (D : Addr) : Rho := { ρ with Z := fun a => ρ.Z a ∨ a = D }
section
variable {G : Gx} {t : Option Addr} {ρ ρ' : Rho} {s s' : MS} {σ σ' : L2.St} {H H' : Hp} {a p D : Addr} {o : HO} {u : U} {v : V} {vs : List Nat}
theorem drop_at {ow : Owner} (h : (ρ.drop vs).At ow a) : ρ.At ow a ∧ ∀ i ∈ vs, ow ≠ .s i := by
  cases h with
  | @s j a h =>
    have h : (if j ∈ vs then none else ρ.os j) = some a := h
    by_cases e : j ∈ vs
    · rw [if_pos e] at h; cases h
    · rw [if_neg e] at h; exact ⟨.s h, fun i m z => e (by rw [Owner.s.inj z]; exact m)⟩
  | j h => exact ⟨.j h, fun _ _ z => nomatch z⟩
  | t h => exact ⟨.t h, fun _ _ z => nomatch z⟩
  | z h => exact ⟨.z h, fun _ _ z => nomatch z⟩
theorem drop_wr (h : (ρ.drop vs).wr a) : ρ.wr a := by
  obtain ⟨o, h⟩ := Rho.wr_iff.mp h
  exact (drop_at h).1.wr
theorem drop_ext : Ext G ρ H (ρ.drop vs) H := ⟨Up.same (fun _ h => drop_wr h) fun _ _ e => e, rfl, fun _ _ _ e _ => e⟩
theorem RlT.wipe (R : RlT G t ρ s σ H) : RlT G t (ρ.drop vs) { s with env := wipeE s.env vs } (L2.wipe σ vs) H where
  len := by rw [show ({ s with env := wipeE s.env vs } : MS).env = wipeE s.env vs from rfl, wipeE_length, wipe_length]; exact R.len
  val := fun i u e => by
    rw [show ({ s with env := wipeE s.env vs } : MS).env = wipeE s.env vs from rfl, wipeE_get] at e
    by_cases m : i ∈ vs
    · rw [if_pos m] at e; split at e <;> cases e
    · rw [if_neg m] at e
      obtain ⟨v, h1, h2⟩ := R.val i u e
      exact ⟨v, by rw [wipe_get, if_neg m]; exact h1, h2.up drop_ext.toUp⟩
  own := fun i u e => by
    rw [show ({ s with env := wipeE s.env vs } : MS).env = wipeE s.env vs from rfl, wipeE_get] at e
    by_cases m : i ∈ vs
    · rw [if_pos m] at e; split at e <;> cases e
    · rw [if_neg m] at e
      obtain ⟨a, h1, h2, h3⟩ := R.own i u e
      exact ⟨a, by rw [wipe_get, if_neg m]; exact h1, by show (if i ∈ vs then none else ρ.os i) = _; rw [if_neg m]; exact h2, h3.up drop_ext.toUp fun _ e => e⟩
  os := fun i a e => by
    have ⟨h, n⟩ := drop_at (ow := .s i) (.s e)
    have m : i ∉ vs := fun z => n i z rfl
    cases h with
    | s h =>
      obtain ⟨w, q⟩ := R.os i a h
      exact ⟨w, by rw [show ({ s with env := wipeE s.env vs } : MS).env = wipeE s.env vs from rfl, wipeE_get, if_neg m]; exact q⟩
  sto := fun j w e => let ⟨a, h, r⟩ := R.sto j w e; ⟨a, h, r.up drop_ext.toUp fun _ e => e⟩
  ss := R.ss
  dj := fun o o' a h h' => R.dj o o' a (drop_at h).1 (drop_at h').1
  occ := fun a w => R.occ a (drop_wr w)
  tm := R.tm
theorem pin_at {ow : Owner} (h : (ρ.pin D).At ow a) : ρ.At ow a ∨ (ow = .z ∧ a = D) := by
  cases h with
  | s h => exact .inl (.s h)
  | j h => exact .inl (.j h)
  | t h => exact .inl (.t h)
  | z h => exact h.elim (fun h => .inl (.z h)) fun h => .inr ⟨rfl, h⟩
theorem pin_wr (h : (ρ.pin D).wr a) : ρ.wr a ∨ a = D := by
  obtain ⟨o, h⟩ := Rho.wr_iff.mp h
  exact (pin_at h).elim (fun h => .inl h.wr) fun h => .inr h.2
theorem wr_pin (h : ρ.wr a) : (ρ.pin D).wr a := by
  obtain ⟨o, h⟩ := Rho.wr_iff.mp h
  cases h with
  | s h => exact Rho.At.wr (.s h)
  | j h => exact Rho.At.wr (.j h)
  | t h => exact Rho.At.wr (.t h)
  | z h => exact Rho.At.wr (.z (.inl h))
theorem unpin_up : Up G (ρ.pin D) H ρ H := Up.same (fun _ h => wr_pin h) fun _ _ e => e
/-- a new object that is being filled -/
theorem RlT.pin (R : RlT G t ρ s σ H) (hD : H D = none) (m : MutK o) (nt : noT o := by trivial) : RlT G t (ρ.pin D) s σ (upd H D o) := by
  have nd : ¬ ρ.wr D := R.fresh hD
  have U1 : Up G ρ H (ρ.pin D) (upd H D o) := ⟨fun b q e n _ => ⟨.inl (by rw [upd_ne (ne_of_none e hD)]; exact e), fun w => (pin_wr w).elim n fun z => by rw [z, hD] at e; cases e⟩, fun _ _ e => e⟩
  have k : ∀ {b : Addr} {q : HO}, ρ.wr b → H b = some q → upd H D o b = some q := fun {b q} w e => by rw [upd_ne (ne_of_none e hD)]; exact e
  refine ⟨R.len, fun i u e => let ⟨v, h, r⟩ := R.val i u e; ⟨v, h, r.up U1⟩, fun i u e => let ⟨a, h, h', r⟩ := R.own i u e; ⟨a, h, h', r.up U1 fun q e => k (Rho.At.wr (.s h')) e⟩, R.os,
    fun j u e => let ⟨a, h, r⟩ := R.sto j u e; ⟨a, h, r.up U1 fun q e => k (Rho.At.wr (.j h)) e⟩, R.ss, fun q q' b h h' => ?_, fun b w => ?_, R.tm⟩
  · rcases pin_at h with k1 | ⟨e1, e2⟩
    · rcases pin_at h' with k2 | ⟨e3, e4⟩
      · exact R.dj q q' b k1 k2
      · rw [e4] at k1; exact (nd k1.wr).elim
    · rcases pin_at h' with k2 | ⟨e3, e4⟩
      · rw [e2] at k2; exact (nd k2.wr).elim
      · rw [e1, e3]
  · rcases pin_wr w with w | rfl
    · obtain ⟨q, e, mk⟩ := R.occ b w
      exact ⟨q, k w e, mk.1, fun z => z.elim mk.2 fun y => by rw [y, hD] at e; cases e⟩
    · exact ⟨o, upd_same, m, fun _ => nt⟩
/-- .. is filled -/
theorem RlT.fill (R : RlT G t (ρ.pin D) s σ H) (m : MutK o) (nt : noT o := by trivial) : RlT G t (ρ.pin D) s σ (upd H D o) := by
  have wD : (ρ.pin D).wr D := Rho.At.wr (.z (.inr rfl))
  have U1 : Up G (ρ.pin D) H (ρ.pin D) (upd H D o) := put_up wD
  have ne : ∀ {ow b}, (ρ.pin D).At ow b → ow ≠ .z → b ≠ D := fun {ow b} h n z => by subst z; exact n (R.dj _ _ _ h (.z (.inr rfl)))
  refine ⟨R.len, fun i u e => let ⟨v, h, r⟩ := R.val i u e; ⟨v, h, r.up U1⟩, fun i u e => let ⟨a, h, h', r⟩ := R.own i u e; ⟨a, h, h', r.up U1 fun q e => by rw [upd_ne (ne (.s h') (fun z => nomatch z))]; exact e⟩, R.os,
    fun j u e => let ⟨a, h, r⟩ := R.sto j u e; ⟨a, h, r.up U1 fun q e => by rw [upd_ne (ne (.j h) (fun z => nomatch z))]; exact e⟩, R.ss, R.dj, fun b w => ?_, R.tm⟩
  by_cases z : b = D
  · subst z; exact ⟨o, upd_same, m, fun _ => nt⟩
  · rw [upd_ne z]; exact R.occ b w
/-- the block is done: its slots are as they were ahead of it -/
theorem RlT.unpin {s0 : MS} {ρ1 : Rho} {H1 : Hp} (R : RlT G t (ρ.pin D) s (L2.wipe σ vs) H) (nD : ¬ ρ.wr D) (R1 : RlT G t ρ1 s0 σ H1) (x : Up G ρ1 H1 ρ H) (hno : noOwn s0.env vs = true) (hw : ∀ i ∈ vs, ∀ u, s.env[i]? ≠ some (Sl.own u)) :
    RlT G t ρ { s with env := backE s0.env s.env vs } σ H := by
  have U1 : Up G (ρ.pin D) H ρ H := unpin_up
  have len1 : s.env.length = σ.length := by rw [R.len, wipe_length]
  have at_ : ∀ {ow b}, ρ.At ow b → (ρ.pin D).At ow b := fun {ow b} h => by
    cases h with
    | s h => exact .s h
    | j h => exact .j h
    | t h => exact .t h
    | z h => exact .z (.inl h)
  have e0 : ∀ {i : Nat} {u : Sl}, i ∈ vs → i < s.env.length → s0.env.getD i .no = u → s0.env[i]? = some u := fun {i u} _ l e => by
    rw [List.getD_eq_getElem?_getD] at e
    have l0 : i < s0.env.length := by rw [R1.len, ← len1]; exact l
    rw [List.getElem?_eq_getElem l0] at e ⊢
    exact congrArg some e
  have no : ∀ {i : Nat}, i ∈ vs → ∀ u, s0.env.getD i .no ≠ .own u := fun {i} m u z => by
    have h := List.all_eq_true.mp hno i m
    rw [z] at h; cases h
  refine ⟨by rw [show ({ s with env := backE s0.env s.env vs } : MS).env = backE s0.env s.env vs from rfl, backE_length, len1], fun i u e => ?_, fun i u e => ?_, fun i a e => ?_,
    fun j u e => let ⟨a, h, r⟩ := R.sto j u e; ⟨a, h, r.up U1 fun _ e => e⟩, R.ss, fun o o' a h h' => R.dj o o' a (at_ h) (at_ h'), fun a w => let ⟨o, e, m⟩ := R.occ a (wr_pin w); ⟨o, e, m.1, fun z => m.2 (.inl z)⟩, R.tm⟩
  · rw [show ({ s with env := backE s0.env s.env vs } : MS).env = backE s0.env s.env vs from rfl, backE_get] at e
    by_cases m : i ∈ vs
    · rw [if_pos m] at e
      by_cases l : i < s.env.length
      · rw [if_pos l] at e
        obtain ⟨v, h1, h2⟩ := R1.val i u (e0 m l (Option.some.inj e))
        exact ⟨v, h1, h2.up x⟩
      · rw [if_neg l] at e; cases e
    · rw [if_neg m] at e
      obtain ⟨v, h1, h2⟩ := R.val i u e
      rw [wipe_get, if_neg m] at h1
      exact ⟨v, h1, h2.up U1⟩
  · rw [show ({ s with env := backE s0.env s.env vs } : MS).env = backE s0.env s.env vs from rfl, backE_get] at e
    by_cases m : i ∈ vs
    · rw [if_pos m] at e
      split at e
      · exact (no m u (Option.some.inj e)).elim
      · cases e
    · rw [if_neg m] at e
      obtain ⟨a, h1, h2, h3⟩ := R.own i u e
      rw [wipe_get, if_neg m] at h1
      exact ⟨a, h1, h2, h3.up U1 fun _ e => e⟩
  · obtain ⟨w, q⟩ := R.os i a e
    have m : i ∉ vs := fun z => hw i z w q
    exact ⟨w, by rw [show ({ s with env := backE s0.env s.env vs } : MS).env = backE s0.env s.env vs from rfl, backE_get, if_neg m]; exact q⟩
end

section
variable {G : Gx} {t : Option Addr} {ρ ρ' : Rho} {s s' : MS} {σ σ' : L2.St} {H H' : Hp} {a p D : Addr} {o : HO} {u : U} {v : V} {vs : List Nat}
theorem pin_mono {o : Owner} (h : ρ.At o a) : (ρ.pin D).At o a := by
  cases h with
  | s h => exact .s h
  | j h => exact .j h
  | t h => exact .t h
  | z h => exact .z (.inl h)
theorem unpin_ext (x' : Ext G (ρ.pin D) H ρ' H') (R' : RlT G t ρ' s' σ' H') (nD : ¬ ρ.wr D) (eD : H D = some o) (nt : noT o := by trivial) : ∃ ρ3 : Rho, ρ' = ρ3.pin D ∧ Ext G ρ H ρ3 H' ∧ ¬ ρ3.wr D ∧ H' D = some o := by
  have e : ρ' = ({ ρ' with Z := ρ.Z } : Rho).pin D := by
    have z := x'.Z
    obtain ⟨os, ss, tm, Z⟩ := ρ'
    have z : Z = (ρ.pin D).Z := z
    subst z
    rfl
  have n3 : ¬ ({ ρ' with Z := ρ.Z } : Rho).wr D := fun w => by
    obtain ⟨ow, h⟩ := Rho.wr_iff.mp w
    have h' : ρ'.At ow D := by rw [e]; exact pin_mono h
    have hz : ρ'.At .z D := by rw [e]; exact .z (.inr rfl)
    have q := R'.dj _ _ _ h' hz
    subst q
    cases h with
    | z h => exact nD (Rho.At.wr (.z h))
  have eD' : H' D = some o := x'.zk D o (.inr rfl) eD nt
  refine ⟨_, e, ⟨⟨fun b q eb nb t => ?_, x'.ss⟩, rfl, fun b q z eb t => x'.zk b q (.inl z) eb t⟩, n3, eD'⟩
  by_cases hb : b = D
  · subst hb
    rw [eD] at eb; cases eb
    exact ⟨.inl eD', n3⟩
  · obtain ⟨k, n⟩ := x'.keep b q eb (fun w => (pin_wr w).elim nb hb) t
    exact ⟨k, fun w => n (by rw [e]; exact wr_pin w)⟩
end

/-! ### a block's targets: names alone -/
def OkG' (X : Cx) (W : WX) (vs : List Nat) (ρ : Rho) (σ : L2.St) (H : Hp) (r : Res MS Unit) (Q : L2.St → Hp → Prop) : Prop := match r with
  | .ok _ s' => ∀ ρ' σ' H', Ext (gx X) ρ H ρ' H' → Rl (gx X) ρ' s' σ' H' → σ'.length = σ.length → (∀ i, i ∉ vs → σ'[i]? = σ[i]?) → Q σ' H'
  | .err x s' => ∀ ρ' σ' H' cls d, Ext (gx X) ρ H ρ' H' → Rl (gx X) ρ' s' σ' H' → ExcRep (gx X) ρ' H' x cls d → W cls d σ' H'
  | .stuck => False
def SGb (X : Cx) (W : WX) (vs : List Nat) (tg : Expr) (t : TG) (g : U → M Unit) : Prop := ∀ ρ s σ H u v Q, Rl (gx X) ρ s σ H → Rep (gx X) ρ H u v → OkG' X W vs ρ σ H (g u s) Q → t v σ H Q
section
variable {X : Cx} {W : WX} {e a b c o tg : Expr} {es ifs : List Expr} {m ma mb mc : M U} {ms : M (List U)} {mt : M Bool} {g : U → M Unit} {gs : List U → M Unit} {pos : Pos} {vs : List Nat} {t : TE} {tt : TT} {tgr : TG}
theorem sgb_name {i : Nat} (hi : i ∈ vs) : SGb X W vs tg (gName i) (stv i) := fun ρ s σ H u v Q R r h =>
  h _ _ H free_ext (R.set i r) (List.length_set ..) fun j n => List.getElem?_set_ne fun z => n (by rw [← z]; exact hi)
def SGbs (X : Cx) (W : WX) (vs : List Nat) (t : TGs) (g : List U → M Unit) : Prop := ∀ ρ s σ H us xs Q, Rl (gx X) ρ s σ H → Reps (gx X) ρ H us xs → OkG' X W vs ρ σ H (g us s) Q → t xs σ H Q
def gnil : List U → M Unit
  | [] => ret ()
  | _ => stk
theorem sgbs_nil : SGbs X W vs gNil gnil := by
  intro ρ s σ H us xs Q R r h
  cases r with
  | nil => exact ⟨rfl, h ρ σ H Ext.refl R rfl fun _ _ => rfl⟩
  | cons => exact h.elim
theorem sgbs_cons {t1 : TG} {t2 : TGs} (h1 : SGb X W vs tg t1 g) (h2 : SGbs X W vs t2 gs) : SGbs X W vs (gCons t1 t2) (gcons g gs) := by
  intro ρ s σ H us xs Q R r h
  cases r with
  | nil => exact h.elim
  | @cons u v us xs r0 r =>
    refine ⟨_, _, rfl, h1 ρ s σ H _ _ _ R r0 ?_⟩
    have h : OkG' X W vs ρ σ H (bd (g u) (fun _ => gs us) s) Q := h
    unfold bd at h
    cases q : g u s with
    | ok w s1 =>
      rw [q] at h; dsimp only at h
      intro ρ1 σ1 H1 x1 R1 l1 k1
      refine h2 ρ1 s1 σ1 H1 _ _ Q R1 (r.up x1.toUp) ?_
      cases q2 : gs us s1 with
      | ok w s2 => rw [q2] at h; exact fun ρ2 σ2 H2 x2 R2 l2 k2 => h ρ2 σ2 H2 (x1.trans x2) R2 (l2.trans l1) fun i n => (k2 i n).trans (k1 i n)
      | err y s2 => rw [q2] at h; exact fun ρ2 σ2 H2 c2 d2 x2 R2 r2 => h ρ2 σ2 H2 c2 d2 (x1.trans x2) R2 r2
      | stuck => rw [q2] at h; exact h
    | err y s1 => rw [q] at h; exact h
    | stuck => rw [q] at h; exact h.elim
theorem sgb_tup {n : Nat} {t : TGs} (h : SGbs X W vs t gs) : SGb X W vs tg (gSeq X.K n t) (gtup n gs) := by
  intro ρ s σ H u v Q R r k
  cases r with
  | @tup us a xs q rs =>
    have k : OkG' X W vs ρ σ H (if (us.length == n) = true then gs us s else .stuck) Q := k
    by_cases e : (us.length == n) = true
    · rw [if_pos e] at k
      exact .inl ⟨_, _, rfl, q.sq, by rw [← rs.length]; exact beq_iff_eq.mp e, h ρ s σ H _ _ Q R rs k⟩
    · rw [if_neg e] at k; exact k.elim
  | @lst us a xs q rs =>
    have k : OkG' X W vs ρ σ H (if (us.length == n) = true then gs us s else .stuck) Q := k
    by_cases e : (us.length == n) = true
    · rw [if_pos e] at k
      exact .inr ⟨_, _, rfl, q.sq, by rw [← rs.length]; exact beq_iff_eq.mp e, h ρ s σ H _ _ Q R rs k⟩
    · rw [if_neg e] at k; exact k.elim
  | _ => exact k.elim

/-! ### [e for x in it if t] -/
def compL (vs : List Nat) (g : U → M Unit) (t : M Bool) (e : M U) : List U → List U → M (List U)
  | acc, [] => ret acc
  | acc, x :: xs => bd (g x) fun _ => bd t fun k => bif k then
      bd e (fun y => when (decide (acc.length < sizeLine)) fun s => compL vs g t e (acc ++ [y]) xs { s with env := wipeE s.env vs })
    else fun s => compL vs g t e acc xs { s with env := wipeE s.env vs }
def finL (vs : List Nat) (e0 : List Sl) : Res MS (List U) → Res MS U
  | .ok us s => .ok (.lst us) { s with env := backE e0 s.env vs }
  | _ => .stuck
def lcM (vs : List Nat) (mi : M (List U)) (g : U → M Unit) (t : M Bool) (e : M U) : M U := bd mi fun xs s => when (noOwn s.env vs) (fun s => finL vs s.env (compL vs g t e [] xs { s with env := wipeE s.env vs })) s
/-- no exception leaves a block -/
abbrev W0 : WX := fun _ _ _ _ => False
/-- the three parts of a block, over every context of it, by their readings -/
structure Blk (X : Cx) (vs : List Nat) (tg : Expr) (ifs : List Expr) (elt : Expr) (scope : Scope) (tg' : TG) (tt : TT) (te : TE) : Prop where
  g : ∀ (s : Shared) (H : Hp) (C : Addr) (cl : List (Str × Addr)) (fp : List Addr), PG (X.blk s H scope (compEnvC scope cl C X.env) fp) tg tg'
  t : ∀ (s : Shared) (H : Hp) (C : Addr) (cl : List (Str × Addr)) (fp : List Addr), PTs (X.blk s H scope (compEnvC scope cl C X.env) fp) ifs tt
  e : ∀ (s : Shared) (H : Hp) (C : Addr) (cl : List (Str × Addr)) (fp : List Addr), PE (X.blk s H scope (compEnvC scope cl C X.env) fp) elt te
def STt (X : Cx) (W : WX) (tt : TT) (m : M Bool) : Prop := ∀ ρ s σ H Q, Rl (gx X) ρ s σ H → OkB X W ρ σ H (m s) Q → tt σ H Q
def SEt (X : Cx) (W : WX) (t : TE) (m : M U) : Prop := ∀ ρ s σ H Q, Rl (gx X) ρ s σ H → OkV X W ρ σ H (m s) Q → t σ H Q
def SIt (X : Cx) (W : WX) (wi : TI) (m : M (List U)) : Prop := ∀ ρ s σ H R, Rl (gx X) ρ s σ H → Ok X W (fun ρ' H' xs J => Walks X J xs ρ' H') ρ σ H (m s) R → wi σ H R
theorem no_ok {α β : Type} {R1 : Rho → Hp → α → β → Prop} {ρ : Rho} {σ : L2.St} {H : Hp} {r : Res MS α} {Q : β → Hp → Prop} (h : (∃ u s', r = .ok u s') ∧ ∀ u s', r = .ok u s' → ∀ ρ' H' v, Ext (gx X) ρ H ρ' H' → Rl (gx X) ρ' s' σ H' → R1 ρ' H' u v → Q v H') : Ok X W R1 ρ σ H r Q := by
  obtain ⟨⟨u, s', rfl⟩, h⟩ := h
  exact h u s' rfl
theorem slc {wi : TI} {te : TE} {mi : M (List U)} (hi : SIt X W wi mi) (hg : SGb X W0 vs tg tgr g) (ht : STt X W0 tt mt) (he : SEt X W0 te m) : SEt X W (tLc wi tgr tt te vs) (lcM vs mi g mt m) := by
  intro ρ s σ H Q R h
  refine hi ρ s σ H _ R (h.bd fun xs s1 ρ1 H1 J _ x1 R1 wk h1 => ?_)
  obtain ⟨hno, h1⟩ := h1.when
  intro D hD
  have nD1 : ¬ ρ1.wr D := R1.fresh hD
  -- the block's start
  have Rw := (R1.wipe (vs := vs)).pin (D := D) (o := .lst []) hD trivial
  have laid : Ext (gx X) ρ1 H1 (ρ1.drop vs) (upd H1 D (.lst [])) := (R1.laidExt hD).trans drop_ext
  refine ⟨fun i k H2 => k = xs.length - i ∧ i ≤ xs.length ∧ ∃ ρ2 s2 acc vacc, Ext (gx X) ρ1 H1 ρ2 H2 ∧ Rl (gx X) (ρ2.pin D) s2 (L2.wipe σ vs) H2 ∧ (∀ i ∈ vs, ∀ u, s2.env[i]? ≠ some (Sl.own u)) ∧ H2 D = some (.lst vacc) ∧ Reps (gx X) (ρ2.pin D) H2 acc vacc ∧ ¬ ρ2.wr D ∧
      OkV X W ρ1 σ H1 (finL vs s1.env (compL vs g mt m acc (xs.drop i) s2)) Q, ⟨xs.length, by simp, Nat.zero_le _, ρ1.drop vs, _, [], [], laid, Rw, ?_, upd_same, .nil, fun w => nD1 (drop_wr w), h1⟩, ?_⟩
  · intro i hi u e
    rw [show ({ s1 with env := wipeE s1.env vs } : MS).env = wipeE s1.env vs from rfl, wipeE_get, if_pos hi] at e
    split at e <;> cases e
  rintro i k H2 ⟨rfl, hi2, ρ2, s2, acc, vacc, x2, R2, nw2, eD, racc, nD, h2⟩
  have xp : Up (gx X) ρ1 H1 (ρ2.pin D) H2 := ⟨fun b q e n t => ⟨(x2.keep b q e n t).1, fun w => (pin_wr w).elim (x2.keep b q e n t).2 fun z => by rw [z, hD] at e; cases e⟩, x2.ss⟩
  obtain ⟨stop, go⟩ := wk (ρ2.pin D) H2 i xp R2.occK hi2
  by_cases hlt : i < xs.length
  · have ed : xs.drop i = xs[i] :: xs.drop (i + 1) := List.drop_eq_getElem_cons hlt
    rw [ed] at h2
    obtain ⟨gg, yy⟩ := go xs[i] (by simp [hlt])
    refine .inr ⟨gg, fun H' => ∃ ρ3 s3 acc' vacc', Ext (gx X) ρ1 H1 ρ3 H' ∧ Rl (gx X) (ρ3.pin D) s3 (L2.wipe σ vs) H' ∧ (∀ i ∈ vs, ∀ u, s3.env[i]? ≠ some (Sl.own u)) ∧ H' D = some (.lst vacc') ∧ Reps (gx X) (ρ3.pin D) H' acc' vacc' ∧ ¬ ρ3.wr D ∧
      OkV X W ρ1 σ H1 (finL vs s1.env (compL vs g mt m acc' (xs.drop (i + 1)) s3)) Q, fun H' q => ⟨xs.length - (i + 1), by omega, rfl, hlt, q⟩, fun x H3 y => ?_⟩
    obtain ⟨hx, rx⟩ := yy x H3 y
    have lay : Ext (gx X) (ρ2.pin D) H2 (ρ2.pin D) H3 ∧ Rl (gx X) (ρ2.pin D) s2 (L2.wipe σ vs) H3 ∧ Ext (gx X) ρ2 H2 ρ2 H3 := by
      rcases hx with rfl | ⟨p, o, hp, rfl⟩
      · exact ⟨Ext.refl, R2, Ext.refl⟩
      · refine ⟨R2.laidExt hp, R2.laid hp, ⟨⟨fun b q e n _ => ⟨.inl (by rw [upd_ne (ne_of_none e hp)]; exact e), n⟩, fun _ _ e => e⟩, rfl, fun b q _ e _ => by rw [upd_ne (ne_of_none e hp)]; exact e⟩⟩
    obtain ⟨lay1, lay2, lay3⟩ := lay
    have eD3 : H3 D = some (.lst vacc) := lay1.zk D _ (.inr rfl) eD trivial
    have h3 := h2
    have x3 := x2.trans lay3
    clear h2
    refine hg (ρ2.pin D) s2 _ H3 xs[i] x _ lay2 rx ?_
    unfold compL bd at h3
    cases q4 : g xs[i] s2 with
    | err y s4 => rw [q4] at h3; exact h3.elim
    | stuck => rw [q4] at h3; exact h3.elim
    | ok w4 s4 =>
      rw [q4] at h3
      intro ρ' σ4 H4 x4 R4 l4 k4
      obtain ⟨ρ4, rfl, y4, n4, e4⟩ := unpin_ext x4 R4 nD eD3
      refine ⟨by rw [wipe_eq l4 k4, wipe_wipe], ?_⟩
      have ew : L2.wipe σ4 vs = L2.wipe σ vs := by rw [wipe_eq l4 k4, wipe_wipe]
      refine ht (ρ4.pin D) s4 σ4 H4 _ R4 ?_
      dsimp only at h3
      cases q5 : mt s4 with
      | err y s5 => rw [q5] at h3; exact h3.elim
      | stuck => rw [q5] at h3; exact h3.elim
      | ok b s5 =>
        rw [q5] at h3
        intro ρ'5 H5 b' x5 R5 eb
        subst eb
        obtain ⟨ρ5, rfl, y5, n5, e5⟩ := unpin_ext x5 R5 n4 e4
        have X5 := (x3.trans y4).trans y5
        dsimp only at h3
        cases b with
        | false =>
          rw [if_neg Bool.false_ne_true]
          have Rn := R5.wipe (vs := vs)
          rw [ew] at Rn
          refine ⟨ρ5.drop vs, _, acc, vacc, X5.trans drop_ext, Rn, ?_, e5, ((((racc.up lay1.toUp).up x4.toUp).up x5.toUp).up drop_ext.toUp), fun w => n5 (drop_wr w), h3⟩
          intro i hi u e
          rw [show ({ s5 with env := wipeE s5.env vs } : MS).env = wipeE s5.env vs from rfl, wipeE_get, if_pos hi] at e
          split at e <;> cases e
        | true =>
          rw [if_pos rfl]
          simp only [cond_true] at h3
          refine he (ρ5.pin D) s5 σ4 H5 _ R5 ?_
          cases q6 : m s5 with
          | err y s6 => rw [q6] at h3; exact h3.elim
          | stuck => rw [q6] at h3; exact h3.elim
          | ok u s6 =>
            rw [q6] at h3
            intro ρ'6 H6 v x6 R6 r6
            obtain ⟨ρ6, rfl, y6, n6, e6⟩ := unpin_ext x6 R6 n5 e5
            have X6 := X5.trans y6
            dsimp only at h3
            have h3' : acc.length < sizeLine ∧ OkV X W ρ1 σ H1 (finL vs s1.env (compL vs g mt m (acc ++ [u]) (xs.drop (i + 1)) { s6 with env := wipeE s6.env vs })) Q := by
              unfold when at h3
              split at h3
              · rename_i e; exact ⟨of_decide_eq_true e, h3⟩
              · exact h3.elim
            have ra := (((racc.up lay1.toUp).up x4.toUp).up x5.toUp).up x6.toUp
            have wD : (ρ6.pin D).wr D := Rho.At.wr (.z (.inr rfl))
            have Rf := (R6.fill (o := .lst (vacc ++ [v])) trivial).wipe (vs := vs)
            rw [ew] at Rf
            have f6 : Ext (gx X) ρ1 H1 (ρ6.drop vs) (upd H6 D (.lst (vacc ++ [v]))) := by
              have Y := X6.trans (drop_ext (vs := vs))
              have nb : ∀ {b q}, H1 b = some q → b ≠ D := fun {b q} eb z => by rw [z, hD] at eb; cases eb
              exact ⟨⟨fun b q eb n t => ⟨by rw [upd_ne (nb eb)]; exact (Y.keep b q eb n t).1, (Y.keep b q eb n t).2⟩, Y.ss⟩, Y.Z, fun b q z eb t => by rw [upd_ne (nb eb)]; exact Y.zk b q z eb t⟩
            refine ⟨vacc, e6, by rw [← ra.length]; exact h3'.1, ρ6.drop vs, _, acc ++ [u], vacc ++ [v], f6, Rf, ?_, upd_same, ?_, fun w => n6 (drop_wr w), h3'.2⟩
            · intro i hi u e
              rw [show ({ s6 with env := wipeE s6.env vs } : MS).env = wipeE s6.env vs from rfl, wipeE_get, if_pos hi] at e
              split at e <;> cases e
            · exact ((ra.up (put_up wD)).up drop_ext.toUp).app (.cons ((r6.up (put_up wD)).up drop_ext.toUp) .nil)
  · have e : i = xs.length := by omega
    subst e
    rw [List.drop_length] at h2
    refine .inl ⟨stop rfl, h2 ρ2 H2 (.ref D) x2 (R2.unpin nD R1 x2.toUp hno nw2) (.lst (.of eD nD) (racc.up unpin_up))⟩

/-! ### {k: v for x in it if t} -/
def putG {κ α : Type} [DecidableEq κ] (kvs : List (κ × α)) (k : κ) (v : α) : List (κ × α) :=
  if (kvs.any fun kv => decide (kv.1 = k)) = true then kvs.map (fun kv => if kv.1 = k then (kv.1, v) else kv) else kvs ++ [(k, v)]
def getG {κ α : Type} [DecidableEq κ] (kvs : List (κ × α)) (k : κ) : Option α := (kvs.find? fun kv => decide (kv.1 = k)).map (·.2)
theorem RepD.app {G : Gx} {ρ : Rho} {H : Hp} : ∀ {us us' : List (Key × U)} {vs vs' : List (Key × V)}, RepD G ρ H us vs → RepD G ρ H us' vs' → RepD G ρ H (us ++ us') (vs ++ vs')
  | _, _, _, _, .nil, s => s
  | _, _, _, _, .cons h r, s => .cons h (r.app s)
theorem RepD.any {G : Gx} {ρ : Rho} {H : Hp} {k : Key} : ∀ {us : List (Key × U)} {vs : List (Key × V)}, RepD G ρ H us vs → (us.any fun kv => decide (kv.1 = k)) = (vs.any fun kv => decide (kv.1 = k))
  | _, _, .nil => rfl
  | _, _, .cons h r => by rw [List.any_cons, List.any_cons, RepD.any r]
theorem RepD.rep {G : Gx} {ρ : Rho} {H : Hp} {k : Key} {u : U} {v : V} (q : Rep G ρ H u v) : ∀ {us : List (Key × U)} {vs : List (Key × V)}, RepD G ρ H us vs → RepD G ρ H (us.map fun kv => if kv.1 = k then (kv.1, u) else kv) (vs.map fun kv => if kv.1 = k then (kv.1, v) else kv)
  | _, _, .nil => .nil
  | (k', _) :: us, (_, _) :: vs, .cons h r => by
    rw [List.map_cons, List.map_cons]
    by_cases e : k' = k
    · rw [if_pos e, if_pos e]; exact .cons q (RepD.rep q r)
    · rw [if_neg e, if_neg e]; exact .cons h (RepD.rep q r)
theorem RepD.put {G : Gx} {ρ : Rho} {H : Hp} {k : Key} {u : U} {v : V} {us : List (Key × U)} {vs : List (Key × V)} (r : RepD G ρ H us vs) (q : Rep G ρ H u v) : RepD G ρ H (putG us k u) (putK vs k v) := by
  unfold putG putK
  rw [r.any]
  split
  · exact r.rep q
  · exact r.app (.cons q .nil)
theorem RepD.get {G : Gx} {ρ : Rho} {H : Hp} {k : Key} : ∀ {us : List (Key × U)} {vs : List (Key × V)}, RepD G ρ H us vs → (∀ u, getG us k = some u → ∃ v, valV vs k = some v ∧ Rep G ρ H u v) ∧ (getG us k = none → valV vs k = none)
  | _, _, .nil => ⟨fun u e => (by cases e), fun _ => rfl⟩
  | (k', u') :: us, (_, v') :: vs, .cons h r => by
    have ih := RepD.get (k := k) r
    unfold getG valV at *
    rw [List.find?_cons, List.find?_cons]
    by_cases e : k' = k
    · rw [decide_eq_true (show k' = k from e)]
      exact ⟨fun u e => (by cases e; exact ⟨v', rfl, h⟩), fun e => (by cases e)⟩
    · rw [decide_eq_false (show ¬ k' = k from e)]
      exact ih
theorem RepD.length {G : Gx} {ρ : Rho} {H : Hp} : ∀ {us : List (Key × U)} {vs : List (Key × V)}, RepD G ρ H us vs → us.length = vs.length
  | _, _, .nil => rfl
  | _, _, .cons _ r => congrArg (· + 1) r.length
def keyU : U → Option Key
  | .int i => some (.inl i)
  | .str x => some (.inr x)
  | _ => none
theorem keyU_ok {G : Gx} {ρ : Rho} {H : Hp} {u : U} {v : V} {k : Key} (r : Rep G ρ H u v) (e : keyU u = some k) : v = kV k := by
  cases r <;> cases e <;> rfl
def compD (vs : List Nat) (g : U → M Unit) (t : M Bool) (ek ev : M U) : List (Key × U) → List U → M (List (Key × U))
  | acc, [] => ret acc
  | acc, x :: xs => bd (g x) fun _ => bd t fun k => bif k then
      bd ek (fun y => bd ev fun z => when (decide (acc.length < sizeLine)) fun s => match keyU y with
        | some q => compD vs g t ek ev (putG acc q z) xs { s with env := wipeE s.env vs }
        | none => .stuck)
    else fun s => compD vs g t ek ev acc xs { s with env := wipeE s.env vs }
def finD (vs : List Nat) (e0 : List Sl) : Res MS (List (Key × U)) → Res MS U
  | .ok us s => .ok (.dK us) { s with env := backE e0 s.env vs }
  | _ => .stuck
def dcM (vs : List Nat) (mi : M (List U)) (g : U → M Unit) (t : M Bool) (ek ev : M U) : M U := bd mi fun xs s => when (noOwn s.env vs) (fun s => finD vs s.env (compD vs g t ek ev [] xs { s with env := wipeE s.env vs })) s
theorem sdc {wi : TI} {tk te : TE} {mk : M U} {mi : M (List U)} (hi : SIt X W wi mi) (hg : SGb X W0 vs tg tgr g) (ht : STt X W0 tt mt) (hk : SEt X W0 tk mk) (he : SEt X W0 te m) : SEt X W (tDc wi tgr tt tk te vs) (dcM vs mi g mt mk m) := by
  intro ρ s σ H Q R h
  refine hi ρ s σ H _ R (h.bd fun xs s1 ρ1 H1 J _ x1 R1 wk h1 => ?_)
  obtain ⟨hno, h1⟩ := h1.when
  intro D hD
  have nD1 : ¬ ρ1.wr D := R1.fresh hD
  -- the block's start
  have Rw := (R1.wipe (vs := vs)).pin (D := D) (o := .dK []) hD trivial
  have laid : Ext (gx X) ρ1 H1 (ρ1.drop vs) (upd H1 D (.dK [])) := (R1.laidExt hD).trans drop_ext
  refine ⟨fun i k H2 => k = xs.length - i ∧ i ≤ xs.length ∧ ∃ ρ2 s2 acc vacc, Ext (gx X) ρ1 H1 ρ2 H2 ∧ Rl (gx X) (ρ2.pin D) s2 (L2.wipe σ vs) H2 ∧ (∀ i ∈ vs, ∀ u, s2.env[i]? ≠ some (Sl.own u)) ∧ H2 D = some (.dK vacc) ∧ RepD (gx X) (ρ2.pin D) H2 acc vacc ∧ ¬ ρ2.wr D ∧
      OkV X W ρ1 σ H1 (finD vs s1.env (compD vs g mt mk m acc (xs.drop i) s2)) Q, ⟨xs.length, by simp, Nat.zero_le _, ρ1.drop vs, _, [], [], laid, Rw, ?_, upd_same, .nil, fun w => nD1 (drop_wr w), h1⟩, ?_⟩
  · intro i hi u e
    rw [show ({ s1 with env := wipeE s1.env vs } : MS).env = wipeE s1.env vs from rfl, wipeE_get, if_pos hi] at e
    split at e <;> cases e
  rintro i k H2 ⟨rfl, hi2, ρ2, s2, acc, vacc, x2, R2, nw2, eD, racc, nD, h2⟩
  have xp : Up (gx X) ρ1 H1 (ρ2.pin D) H2 := ⟨fun b q e n t => ⟨(x2.keep b q e n t).1, fun w => (pin_wr w).elim (x2.keep b q e n t).2 fun z => by rw [z, hD] at e; cases e⟩, x2.ss⟩
  obtain ⟨stop, go⟩ := wk (ρ2.pin D) H2 i xp R2.occK hi2
  by_cases hlt : i < xs.length
  · have ed : xs.drop i = xs[i] :: xs.drop (i + 1) := List.drop_eq_getElem_cons hlt
    rw [ed] at h2
    obtain ⟨gg, yy⟩ := go xs[i] (by simp [hlt])
    refine .inr ⟨gg, fun H' => ∃ ρ3 s3 acc' vacc', Ext (gx X) ρ1 H1 ρ3 H' ∧ Rl (gx X) (ρ3.pin D) s3 (L2.wipe σ vs) H' ∧ (∀ i ∈ vs, ∀ u, s3.env[i]? ≠ some (Sl.own u)) ∧ H' D = some (.dK vacc') ∧ RepD (gx X) (ρ3.pin D) H' acc' vacc' ∧ ¬ ρ3.wr D ∧
      OkV X W ρ1 σ H1 (finD vs s1.env (compD vs g mt mk m acc' (xs.drop (i + 1)) s3)) Q, fun H' q => ⟨xs.length - (i + 1), by omega, rfl, hlt, q⟩, fun x H3 y => ?_⟩
    obtain ⟨hx, rx⟩ := yy x H3 y
    have lay : Ext (gx X) (ρ2.pin D) H2 (ρ2.pin D) H3 ∧ Rl (gx X) (ρ2.pin D) s2 (L2.wipe σ vs) H3 ∧ Ext (gx X) ρ2 H2 ρ2 H3 := by
      rcases hx with rfl | ⟨p, o, hp, rfl⟩
      · exact ⟨Ext.refl, R2, Ext.refl⟩
      · refine ⟨R2.laidExt hp, R2.laid hp, ⟨⟨fun b q e n _ => ⟨.inl (by rw [upd_ne (ne_of_none e hp)]; exact e), n⟩, fun _ _ e => e⟩, rfl, fun b q _ e _ => by rw [upd_ne (ne_of_none e hp)]; exact e⟩⟩
    obtain ⟨lay1, lay2, lay3⟩ := lay
    have eD3 : H3 D = some (.dK vacc) := lay1.zk D _ (.inr rfl) eD trivial
    have h3 := h2
    have x3 := x2.trans lay3
    clear h2
    refine hg (ρ2.pin D) s2 _ H3 xs[i] x _ lay2 rx ?_
    unfold compD bd at h3
    cases q4 : g xs[i] s2 with
    | err y s4 => rw [q4] at h3; exact h3.elim
    | stuck => rw [q4] at h3; exact h3.elim
    | ok w4 s4 =>
      rw [q4] at h3
      intro ρ' σ4 H4 x4 R4 l4 k4
      obtain ⟨ρ4, rfl, y4, n4, e4⟩ := unpin_ext x4 R4 nD eD3
      refine ⟨by rw [wipe_eq l4 k4, wipe_wipe], ?_⟩
      have ew : L2.wipe σ4 vs = L2.wipe σ vs := by rw [wipe_eq l4 k4, wipe_wipe]
      refine ht (ρ4.pin D) s4 σ4 H4 _ R4 ?_
      dsimp only at h3
      cases q5 : mt s4 with
      | err y s5 => rw [q5] at h3; exact h3.elim
      | stuck => rw [q5] at h3; exact h3.elim
      | ok b s5 =>
        rw [q5] at h3
        intro ρ'5 H5 b' x5 R5 eb
        subst eb
        obtain ⟨ρ5, rfl, y5, n5, e5⟩ := unpin_ext x5 R5 n4 e4
        have X5 := (x3.trans y4).trans y5
        dsimp only at h3
        cases b with
        | false =>
          rw [if_neg Bool.false_ne_true]
          have Rn := R5.wipe (vs := vs)
          rw [ew] at Rn
          refine ⟨ρ5.drop vs, _, acc, vacc, X5.trans drop_ext, Rn, ?_, e5, ((((racc.up lay1.toUp).up x4.toUp).up x5.toUp).up drop_ext.toUp), fun w => n5 (drop_wr w), h3⟩
          intro i hi u e
          rw [show ({ s5 with env := wipeE s5.env vs } : MS).env = wipeE s5.env vs from rfl, wipeE_get, if_pos hi] at e
          split at e <;> cases e
        | true =>
          rw [if_pos rfl]
          simp only [cond_true] at h3
          refine hk (ρ5.pin D) s5 σ4 H5 _ R5 ?_
          cases q7 : mk s5 with
          | err y s6 => rw [q7] at h3; exact h3.elim
          | stuck => rw [q7] at h3; exact h3.elim
          | ok uk s7 =>
          rw [q7] at h3
          intro ρ'7 H7 vk x7 R7 r7
          obtain ⟨ρ7, rfl, y7, n7, e7⟩ := unpin_ext x7 R7 n5 e5
          have X7 := X5.trans y7
          dsimp only at h3
          refine he (ρ7.pin D) s7 σ4 H7 _ R7 ?_
          cases q6 : m s7 with
          | err y s6 => rw [q6] at h3; exact h3.elim
          | stuck => rw [q6] at h3; exact h3.elim
          | ok u s6 =>
            rw [q6] at h3
            intro ρ'6 H6 v x6 R6 r6
            obtain ⟨ρ6, rfl, y6, n6, e6⟩ := unpin_ext x6 R6 n7 e7
            have X6 := X7.trans y6
            dsimp only at h3
            have h3' : ∃ ky, acc.length < sizeLine ∧ keyU uk = some ky ∧ OkV X W ρ1 σ H1 (finD vs s1.env (compD vs g mt mk m (putG acc ky u) (xs.drop (i + 1)) { s6 with env := wipeE s6.env vs })) Q := by
              unfold when at h3
              split at h3
              · rename_i e
                cases qk : keyU uk with
                | none => rw [qk] at h3; exact h3.elim
                | some ky => rw [qk] at h3; exact ⟨ky, of_decide_eq_true e, rfl, h3⟩
              · exact h3.elim
            obtain ⟨ky, hlen, hky, h4⟩ := h3'
            have ra := ((((racc.up lay1.toUp).up x4.toUp).up x5.toUp).up x7.toUp).up x6.toUp
            have wD : (ρ6.pin D).wr D := Rho.At.wr (.z (.inr rfl))
            have Rf := (R6.fill (o := .dK (putK vacc ky v)) trivial).wipe (vs := vs)
            rw [ew] at Rf
            have f6 : Ext (gx X) ρ1 H1 (ρ6.drop vs) (upd H6 D (.dK (putK vacc ky v))) := by
              have Y := X6.trans (drop_ext (vs := vs))
              have nb : ∀ {b q}, H1 b = some q → b ≠ D := fun {b q} eb z => by rw [z, hD] at eb; cases eb
              exact ⟨⟨fun b q eb n t => ⟨by rw [upd_ne (nb eb)]; exact (Y.keep b q eb n t).1, (Y.keep b q eb n t).2⟩, Y.ss⟩, Y.Z, fun b q z eb t => by rw [upd_ne (nb eb)]; exact Y.zk b q z eb t⟩
            refine ⟨vacc, ky, keyU_ok r7 hky, e6, by rw [← ra.length]; exact hlen, ρ6.drop vs, _, putG acc ky u, putK vacc ky v, f6, Rf, ?_, upd_same, ?_, fun w => n6 (drop_wr w), h4⟩
            · intro i hi u e
              rw [show ({ s6 with env := wipeE s6.env vs } : MS).env = wipeE s6.env vs from rfl, wipeE_get, if_pos hi] at e
              split at e <;> cases e
            · exact ((ra.up (put_up wD)).up drop_ext.toUp).put ((r6.up (put_up wD)).up drop_ext.toUp)
  · have e : i = xs.length := by omega
    subst e
    rw [List.drop_length] at h2
    refine .inl ⟨stop rfl, h2 ρ2 H2 (.ref D) x2 (R2.unpin nD R1 x2.toUp hno nw2) (.dK (.inl eD) nD (racc.up unpin_up))⟩

/-! ### as expressions -/
/-- tests -/
def STs (X : Cx) (W : WX) (ifs : List Expr) (m : M Bool) : Prop := ∃ t, PTs X ifs t ∧ STt X W t m
end
end Mi

/-! Mini I: objects just made; comprehensions as expressions. -/
namespace Mi
open PySem PySem.Spec PyProof.Rows L2

/-! ### an object just made, that nothing else tells -/
def Rho.tmp (ρ : Rho) (D : Addr) : Rho := { ρ with tm := some D }
section
variable {G : Gx} {t t1 : Option Addr} {ρ ρ1 ρ' : Rho} {s s0 s' : MS} {σ σ' : L2.St} {H H1 H' : Hp} {a p D : Addr} {o : HO} {u : U} {v : V} {vs : List Nat}
theorem tmp_at {ow : Owner} (e : ρ.tm = none) (h : (ρ.tmp D).At ow a) : (ρ.At ow a ∧ ow ≠ .t) ∨ (ow = .t ∧ a = D) := by
  cases h with
  | s h => exact .inl ⟨.s h, fun z => nomatch z⟩
  | j h => exact .inl ⟨.j h, fun z => nomatch z⟩
  | t h => exact .inr ⟨rfl, (Option.some.inj h).symm⟩
  | z h => exact .inl ⟨.z h, fun z => nomatch z⟩
theorem at_tmp {ow : Owner} (e : ρ.tm = none) (h : ρ.At ow a) : (ρ.tmp D).At ow a := by
  cases h with
  | s h => exact .s h
  | j h => exact .j h
  | t h => rw [e] at h; cases h
  | z h => exact .z h
theorem tmp_wr (e : ρ.tm = none) (h : (ρ.tmp D).wr a) : ρ.wr a ∨ a = D := by
  obtain ⟨o, h⟩ := Rho.wr_iff.mp h
  exact (tmp_at e h).elim (fun h => .inl h.1.wr) fun h => .inr h.2
theorem wr_tmp (e : ρ.tm = none) (h : ρ.wr a) : (ρ.tmp D).wr a := by
  obtain ⟨o, h⟩ := Rho.wr_iff.mp h
  exact (at_tmp e h).wr
theorem pin_tmp (R : Rl G (ρ.pin D) s σ H) (n : ¬ ρ.wr D) : RlT G (some D) (ρ.tmp D) s σ H := by
  have e : ρ.tm = none := R.tm
  have w : ∀ {a}, (ρ.tmp D).wr a → (ρ.pin D).wr a := fun {a} h => (tmp_wr e h).elim wr_pin fun z => by rw [z]; exact Rho.At.wr (.z (.inr rfl))
  have U1 : Up G (ρ.pin D) H (ρ.tmp D) H := Up.same (fun _ h => w h) fun _ _ e => e
  refine ⟨R.len, fun i u e => let ⟨v, h, r⟩ := R.val i u e; ⟨v, h, r.up U1⟩, fun i u e => let ⟨a, h, h', r⟩ := R.own i u e; ⟨a, h, h', r.up U1 fun _ e => e⟩, R.os,
    fun j u e => let ⟨a, h, r⟩ := R.sto j u e; ⟨a, h, r.up U1 fun _ e => e⟩, R.ss, fun q q' b h h' => ?_, fun b h => let ⟨o, e, m⟩ := R.occ b (w h); ⟨o, e, m.1, fun z => m.2 (.inl z)⟩, rfl⟩
  rcases tmp_at e h with ⟨k1, _⟩ | ⟨e1, e2⟩
  · rcases tmp_at e h' with ⟨k2, _⟩ | ⟨e3, e4⟩
    · exact R.dj q q' b (pin_mono k1) (pin_mono k2)
    · rw [e4] at k1; exact (n k1.wr).elim
  · rcases tmp_at e h' with ⟨k2, _⟩ | ⟨e3, e4⟩
    · rw [e2] at k2; exact (n k2.wr).elim
    · rw [e1, e3]
/-- laid, and in hand -/
theorem RlT.lay (R : Rl G ρ s σ H) (hD : H D = none) (m : MutK o) (nt : noT o := by trivial) : RlT G (some D) (ρ.tmp D) s σ (upd H D o) := pin_tmp (R.pin hD m nt) (R.fresh hD)
theorem lay_up (e : ρ.tm = none) (hD : H D = none) : Up G ρ H (ρ.tmp D) (upd H D o) :=
  ⟨fun b q k n _ => ⟨.inl (by rw [upd_ne (ne_of_none k hD)]; exact k), fun w => (tmp_wr e w).elim n fun z => by rw [z, hD] at k; cases k⟩, fun _ _ e => e⟩
theorem tmp_up (e : ρ.tm = none) : Up G (ρ.tmp D) H ρ H := Up.same (fun _ h => wr_tmp e h) fun _ _ e => e
/-- .. is let go: it stands by value -/
theorem RlT.letgo (R : RlT G (some D) (ρ.tmp D) s σ H) (e : ρ.tm = none) : Rl G ρ s σ H := by
  have U1 : Up G (ρ.tmp D) H ρ H := tmp_up e
  exact ⟨R.len, fun i u e => let ⟨v, h, r⟩ := R.val i u e; ⟨v, h, r.up U1⟩, fun i u e => let ⟨a, h, h', r⟩ := R.own i u e; ⟨a, h, h', r.up U1 fun _ e => e⟩, R.os,
    fun j u e => let ⟨a, h, r⟩ := R.sto j u e; ⟨a, h, r.up U1 fun _ e => e⟩, R.ss, fun q q' b h h' => R.dj q q' b (at_tmp e h) (at_tmp e h'), fun b h => R.occ b (wr_tmp e h), e⟩
/-- .. gets a name -/
def Rho.give (ρ : Rho) (i : Nat) (D : Addr) : Rho := { ρ with os := fun j => if j = i then some D else ρ.os j }
theorem give_at {ow : Owner} {i : Nat} (e : ρ.tm = none) (h : (ρ.give i D).At ow a) : (ρ.At ow a ∧ ow ≠ .s i) ∨ (ow = .s i ∧ a = D) := by
  cases h with
  | @s j a h =>
    have h : (if j = i then some D else ρ.os j) = some a := h
    by_cases q : j = i
    · rw [if_pos q] at h; exact .inr ⟨by rw [q], (Option.some.inj h).symm⟩
    · rw [if_neg q] at h; exact .inl ⟨.s h, fun z => q (Owner.s.inj z)⟩
  | j h => exact .inl ⟨.j h, fun z => nomatch z⟩
  | t h => exact .inl ⟨.t h, fun z => nomatch z⟩
  | z h => exact .inl ⟨.z h, fun z => nomatch z⟩
theorem give_wr {i : Nat} (e : ρ.tm = none) (h : (ρ.give i D).wr a) : ρ.wr a ∨ a = D := by
  obtain ⟨o, h⟩ := Rho.wr_iff.mp h
  exact (give_at e h).elim (fun h => .inl h.1.wr) fun h => .inr h.2
theorem give_up {i : Nat} (e : ρ.tm = none) : Up G (ρ.tmp D) H (ρ.give i D) H := Up.same (fun _ h => (give_wr e h).elim (wr_tmp e) fun z => by rw [z]; exact Rho.At.wr (.t rfl)) fun _ _ e => e
theorem RlT.give (R : RlT G (some D) (ρ.tmp D) s σ H) (e : ρ.tm = none) (n : ¬ ρ.wr D) (ow : Own G (ρ.tmp D) H u D) {i : Nat} (hi : i < s.env.length) : Rl G (ρ.give i D) { s with env := s.env.set i (.own u) } (σ.set i (some (.ref D))) H := by
  have U1 : Up G (ρ.tmp D) H (ρ.give i D) H := give_up e
  have ne : ∀ {j}, i ≠ j → ({ s with env := s.env.set i (.own u) } : MS).env[j]? = s.env[j]? := fun {j} h => List.getElem?_set_ne h
  have eq : ({ s with env := s.env.set i (.own u) } : MS).env[i]? = some (.own u) := List.getElem?_set_self hi
  have hl : i < σ.length := by rw [← R.len]; exact hi
  refine ⟨by simp [R.len], fun j w q => ?_, fun j w q => ?_, fun j b q => ?_, fun j w q => let ⟨b, h, r⟩ := R.sto j w q; ⟨b, h, r.up U1 fun _ e => e⟩, R.ss, fun q q' b h h' => ?_, fun b h => R.occ b ((give_wr e h).elim (wr_tmp e) fun z => by rw [z]; exact Rho.At.wr (.t rfl)), e⟩
  · by_cases z : i = j
    · subst z; rw [eq] at q; cases q
    · rw [ne z] at q
      obtain ⟨y, k1, k2⟩ := R.val j w q
      exact ⟨y, by rw [List.getElem?_set_ne z]; exact k1, k2.up U1⟩
  · by_cases z : i = j
    · subst z; rw [eq] at q; cases q
      exact ⟨D, List.getElem?_set_self hl, if_pos rfl, ow.up U1 fun _ e => e⟩
    · rw [ne z] at q
      obtain ⟨b, k1, k2, k3⟩ := R.own j w q
      exact ⟨b, by rw [List.getElem?_set_ne z]; exact k1, by show (if j = i then some D else ρ.os j) = _; rw [if_neg (Ne.symm z)]; exact k2, k3.up U1 fun _ e => e⟩
  · by_cases z : i = j
    · subst z; exact ⟨u, eq⟩
    · have q : (if j = i then some D else ρ.os j) = some b := q
      rw [if_neg (Ne.symm z)] at q
      obtain ⟨w, k⟩ := R.os j b q
      exact ⟨w, by rw [ne z]; exact k⟩
  · rcases give_at e h with ⟨k1, _⟩ | ⟨e1, e2⟩
    · rcases give_at e h' with ⟨k2, _⟩ | ⟨e3, e4⟩
      · exact R.dj q q' b (at_tmp e k1) (at_tmp e k2)
      · rw [e4] at k1; exact (n k1.wr).elim
    · rcases give_at e h' with ⟨k2, _⟩ | ⟨e3, e4⟩
      · rw [e2] at k2; exact (n k2.wr).elim
      · rw [e1, e3]
theorem give_ext {i : Nat} (e : ρ.tm = none) (R : RlT G (some D) (ρ.tmp D) s σ H) (x : Ext G ρ1 H1 ρ H) (h0 : ∀ q, H1 D = some q → noT q → ρ1.wr D) : Ext G ρ1 H1 (ρ.give i D) H :=
  ⟨⟨fun b q k n t => ⟨(x.keep b q k n t).1, fun w => (give_wr e w).elim (x.keep b q k n t).2 fun z => n (by rw [z] at k ⊢; exact h0 _ k t)⟩, x.ss⟩, x.Z, x.zk⟩
/-- .. goes to the store -/
def Rho.sto (ρ : Rho) (j : Nat) (D : Addr) : Rho := { ρ with ss := fun k => if k = j then some D else ρ.ss k }
theorem sto_at {ow : Owner} {i : Nat} (h : (ρ.sto i D).At ow a) : (ρ.At ow a ∧ ow ≠ .j i) ∨ (ow = .j i ∧ a = D) := by
  cases h with
  | @j j a h =>
    have h : (if j = i then some D else ρ.ss j) = some a := h
    by_cases q : j = i
    · rw [if_pos q] at h; exact .inr ⟨by rw [q], (Option.some.inj h).symm⟩
    · rw [if_neg q] at h; exact .inl ⟨.j h, fun z => q (Owner.j.inj z)⟩
  | s h => exact .inl ⟨.s h, fun z => nomatch z⟩
  | t h => exact .inl ⟨.t h, fun z => nomatch z⟩
  | z h => exact .inl ⟨.z h, fun z => nomatch z⟩
theorem sto_wr {i : Nat} (h : (ρ.sto i D).wr a) : ρ.wr a ∨ a = D := by
  obtain ⟨o, h⟩ := Rho.wr_iff.mp h
  exact (sto_at h).elim (fun h => .inl h.1.wr) fun h => .inr h.2
theorem sto_none (R : RlT G t ρ s σ H) : ρ.ss s.st.length = none := by
  cases q : ρ.ss s.st.length with
  | none => rfl
  | some b => exact absurd (R.ss _ _ q) (Nat.lt_irrefl _)
theorem RlT.toStore (R : RlT G (some D) (ρ.tmp D) s σ H) (e : ρ.tm = none) (n : ¬ ρ.wr D) (ow : Own G (ρ.tmp D) H u D) : Rl G (ρ.sto s.st.length D) { s with st := s.st ++ [u] } σ H := by
  have hn : ρ.ss s.st.length = none := sto_none (ρ := ρ.tmp D) R
  have U1 : Up G (ρ.tmp D) H (ρ.sto s.st.length D) H := Up.same (fun _ h => (sto_wr h).elim (wr_tmp e) fun z => by rw [z]; exact Rho.At.wr (.t rfl)) fun j a k => by
    show (if j = s.st.length then some D else ρ.ss j) = some a
    rw [if_neg (fun z => by subst z; have k : ρ.ss s.st.length = some a := k; rw [hn] at k; cases k)]; exact k
  refine ⟨R.len, fun i u e => let ⟨v, h, r⟩ := R.val i u e; ⟨v, h, r.up U1⟩, fun i u e => let ⟨a, h, h', r⟩ := R.own i u e; ⟨a, h, h', r.up U1 fun _ e => e⟩, R.os, fun j w q => ?_, fun j b q => ?_, fun q q' b h h' => ?_, fun b h => R.occ b ((sto_wr h).elim (wr_tmp e) fun z => by rw [z]; exact Rho.At.wr (.t rfl)), e⟩
  · have q : (s.st ++ [u])[j]? = some w := q
    by_cases l : j < s.st.length
    · rw [List.getElem?_append_left l] at q
      obtain ⟨b, h, r⟩ := R.sto j w q
      exact ⟨b, by show (if j = s.st.length then some D else ρ.ss j) = _; rw [if_neg (by omega)]; exact h, r.up U1 fun _ e => e⟩
    · rw [List.getElem?_append_right (by omega)] at q
      have hj : j = s.st.length := by
        have := (List.getElem?_eq_some_iff.mp q).1
        simp at this; omega
      subst hj
      simp at q
      subst q
      exact ⟨D, if_pos rfl, (ow.up U1 fun _ e => e).s⟩
  · have q : (if j = s.st.length then some D else ρ.ss j) = some b := q
    show j < (s.st ++ [u]).length
    rw [List.length_append]
    by_cases z : j = s.st.length
    · rw [z]; simp
    · rw [if_neg z] at q
      have := R.ss j b q
      simp; omega
  · rcases sto_at h with ⟨k1, _⟩ | ⟨e1, e2⟩
    · rcases sto_at h' with ⟨k2, _⟩ | ⟨e3, e4⟩
      · exact R.dj q q' b (at_tmp e k1) (at_tmp e k2)
      · rw [e4] at k1; exact (n k1.wr).elim
    · rcases sto_at h' with ⟨k2, _⟩ | ⟨e3, e4⟩
      · rw [e2] at k2; exact (n k2.wr).elim
      · rw [e1, e3]
theorem sto_ext (R : RlT G (some D) (ρ.tmp D) s σ H) (x : Ext G ρ1 H1 ρ H) (h0 : ∀ q, H1 D = some q → noT q → ρ1.wr D) : Ext G ρ1 H1 (ρ.sto s.st.length D) H := by
  have hn : ρ.ss s.st.length = none := sto_none (ρ := ρ.tmp D) R
  refine ⟨⟨fun b q k n t => ⟨(x.keep b q k n t).1, fun w => (sto_wr w).elim (x.keep b q k n t).2 fun z => n (by rw [z] at k ⊢; exact h0 _ k t)⟩, fun j b k => ?_⟩, x.Z, x.zk⟩
  have k := x.ss j b k
  show (if j = s.st.length then some D else ρ.ss j) = some b
  rw [if_neg (fun z => by subst z; rw [hn] at k; cases k)]; exact k
/-- the block is done: its slots are as they were ahead of it -/
theorem RlT.unwipe (R : RlT G t ρ s (L2.wipe σ vs) H) (R1 : RlT G t1 ρ1 s0 σ H1) (x : Up G ρ1 H1 ρ H) (hno : noOwn s0.env vs = true) (hw : ∀ i ∈ vs, ∀ u, s.env[i]? ≠ some (Sl.own u)) :
    RlT G t ρ { s with env := backE s0.env s.env vs } σ H := by
  have len1 : s.env.length = σ.length := by rw [R.len, wipe_length]
  have ebk : ∀ i : Nat, ({ s with env := backE s0.env s.env vs } : MS).env[i]? = if i ∈ vs then (if i < s.env.length then some (s0.env.getD i .no) else none) else s.env[i]? := fun i => backE_get
  have e0 : ∀ {i : Nat} {u : Sl}, i < s.env.length → s0.env.getD i .no = u → s0.env[i]? = some u := fun {i u} l e => by
    rw [List.getD_eq_getElem?_getD] at e
    have l0 : i < s0.env.length := by rw [R1.len, ← len1]; exact l
    rw [List.getElem?_eq_getElem l0] at e ⊢
    exact congrArg some e
  have no : ∀ {i : Nat}, i ∈ vs → ∀ u, s0.env.getD i .no ≠ .own u := fun {i} m u z => by
    have h := List.all_eq_true.mp hno i m
    rw [z] at h; cases h
  refine ⟨by show (backE s0.env s.env vs).length = _; rw [backE_length, len1], fun i u e => ?_, fun i u e => ?_, fun i a e => ?_, R.sto, R.ss, R.dj, R.occ, R.tm⟩
  · rw [ebk] at e
    by_cases m : i ∈ vs
    · rw [if_pos m] at e
      by_cases l : i < s.env.length
      · rw [if_pos l] at e
        obtain ⟨v, h1, h2⟩ := R1.val i u (e0 l (Option.some.inj e))
        exact ⟨v, h1, h2.up x⟩
      · rw [if_neg l] at e; cases e
    · rw [if_neg m] at e
      obtain ⟨v, h1, h2⟩ := R.val i u e
      rw [wipe_get, if_neg m] at h1
      exact ⟨v, h1, h2⟩
  · rw [ebk] at e
    by_cases m : i ∈ vs
    · rw [if_pos m] at e
      split at e
      · exact (no m u (Option.some.inj e)).elim
      · cases e
    · rw [if_neg m] at e
      obtain ⟨a, h1, h2, h3⟩ := R.own i u e
      rw [wipe_get, if_neg m] at h1
      exact ⟨a, h1, h2, h3⟩
  · obtain ⟨w, q⟩ := R.os i a e
    have m : i ∉ vs := fun z => hw i z w q
    exact ⟨w, by rw [ebk, if_neg m]; exact q⟩
end
/-- the outcome is an object just made -/
def OkN (X : Cx) (W : WX) (ρ : Rho) (σ : L2.St) (H : Hp) (r : Res MS U) (Q : V → Hp → Prop) : Prop := match r with
  | .ok u s' => ∀ ρ' H' a, (∀ o, H a = some o → noT o → ρ.wr a) → Ext (gx X) ρ H ρ' H' → ρ'.tm = none → ¬ ρ'.wr a → RlT (gx X) (some a) (ρ'.tmp a) s' σ H' → Own (gx X) (ρ'.tmp a) H' u a → Q (.ref a) H'
  | .err x s' => ∀ ρ' H' cls d, Ext (gx X) ρ H ρ' H' → Rl (gx X) ρ' s' σ H' → ExcRep (gx X) ρ' H' x cls d → W cls d σ H'
  | .stuck => False
def SEN (X : Cx) (W : WX) (e : Expr) (m : M U) : Prop :=
  ∃ t, PE X e t ∧ ∀ ρ s σ H Q, Rl (gx X) ρ s σ H → OkN X W ρ σ H (m s) Q → t σ H Q
def alc (u : U) : M U := fun s => .ok (.ref s.st.length) { s with st := s.st ++ [u] }
section
variable {X : Cx} {W : WX} {e a b c o tg : Expr} {es ifs : List Expr} {m ma mb mc : M U} {ms : M (List U)} {mt : M Bool} {g : U → M Unit} {gs : List U → M Unit} {pos : Pos} {vs : List Nat} {t : TE} {tt : TT} {tgr : TG}
theorem new_trans {G : Gx} {ρ ρ1 : Rho} {H H1 : Hp} {a : Addr} (x : Ext G ρ H ρ1 H1) (h : ∀ o, H1 a = some o → noT o → ρ1.wr a) : ∀ o, H a = some o → noT o → ρ.wr a := fun o e t => by
  by_cases w : ρ.wr a
  · exact w
  · obtain ⟨k, n⟩ := x.keep a o e w t
    rcases k with k | ⟨ob, k, _⟩
    · exact absurd (h _ k t) n
    · exact absurd (h _ k trivial) n
theorem OkN.ext {ρ ρ' : Rho} {σ : L2.St} {H H' : Hp} {r : Res MS U} {Q : V → Hp → Prop} (h : OkN X W ρ σ H r Q) (x : Ext (gx X) ρ H ρ' H') : OkN X W ρ' σ H' r Q := by
  cases r with
  | ok u s2 => exact fun ρ2 H2 a h0 x2 e2 n2 R2 ow => h ρ2 H2 a (new_trans x h0) (x.trans x2) e2 n2 R2 ow
  | err y s2 => exact fun ρ2 H2 c2 d2 x2 R2 r2 => h ρ2 H2 c2 d2 (x.trans x2) R2 r2
  | stuck => exact h
theorem OkN.bd {α β : Type} {R1 : Rho → Hp → α → β → Prop} {m : M α} {f : α → M U} {ρ : Rho} {s : MS} {σ : L2.St} {H : Hp} {Q : V → Hp → Prop} {P : β → Hp → Prop} (h : OkN X W ρ σ H (Mi.bd m f s) Q)
    (k : ∀ u s' ρ' H' v, m s = .ok u s' → Ext (gx X) ρ H ρ' H' → Rl (gx X) ρ' s' σ H' → R1 ρ' H' u v → OkN X W ρ' σ H' (f u s') Q → P v H') : Ok X W R1 ρ σ H (m s) P := by
  unfold Mi.bd at h
  cases q : m s with
  | ok u s' => rw [q] at h; exact fun ρ' H' v x R r => k u s' ρ' H' v q x R r (OkN.ext h x)
  | err y s' => rw [q] at h; exact h
  | stuck => rw [q] at h; exact h.elim
theorem OkN.when {b : Bool} {m : M U} {ρ : Rho} {s : MS} {σ : L2.St} {H : Hp} {Q : V → Hp → Prop} (h : OkN X W ρ σ H (when b m s) Q) : b = true ∧ OkN X W ρ σ H (m s) Q := by
  have h : OkN X W ρ σ H (if b = true then m s else .stuck) Q := h
  by_cases e : b = true
  · rw [if_pos e] at h; exact ⟨e, h⟩
  · rw [if_neg e] at h; exact h.elim
/-- laid now -/
theorem OkN.lay {ρ : Rho} {s : MS} {σ : L2.St} {H : Hp} {Q : V → Hp → Prop} {u : U} {D : Addr} {ho : HO} (h : OkN X W ρ σ H (ret u s) Q) (R : Rl (gx X) ρ s σ H) (hD : H D = none) (ow : Up (gx X) ρ H (ρ.tmp D) (upd H D ho) → upd H D ho D = some ho → Own (gx X) (ρ.tmp D) (upd H D ho) u D) : Q (.ref D) (upd H D ho) := by
  have O := ow (lay_up R.tm hD) upd_same
  obtain ⟨q, e, m⟩ := O.mut
  rw [upd_same] at e; cases e
  exact h ρ _ D (fun o e => by rw [hD] at e; cases e) (R.laidExt hD) R.tm (R.fresh hD) (R.lay hD m (O.noT upd_same)) O
/-- as a value -/
theorem SEN.se (h : SEN X W e m) : SE X W e m := by
  obtain ⟨t, p, h⟩ := h
  refine ⟨t, p, fun ρ s σ H Q R k => h ρ s σ H Q R ?_⟩
  revert k
  cases m s with
  | ok u s' => exact fun k ρ' H' a h0 x e n R' ow => k ρ' H' _ x (R'.letgo e) ((ow.up (tmp_up e) fun _ e => e).rep n)
  | err y s' => exact fun k => k
  | stuck => exact fun k => k
/-- into the store -/
theorem SEN.alc (h : SEN X W e m) : SE X W e (bd m alc) := by
  obtain ⟨t, p, h⟩ := h
  refine ⟨t, p, fun ρ s σ H Q R k => h ρ s σ H Q R ?_⟩
  revert k
  unfold bd
  cases m s with
  | ok u s' => exact fun k ρ' H' a h0 x e n R' ow => k _ H' _ (sto_ext R' x h0) (R'.toStore e n ow) (.ref (if_pos rfl))
  | err y s' => exact fun k => k
  | stuck => exact fun k => k
/-- a name gets it -/
def sto (i : Nat) (u : U) : M Unit := fun s => if i < s.env.length then .ok () { s with env := s.env.set i (.own u) } else .stuck
theorem ss_setN {i : Nat} {x : Str} {pos' : Pos} (hN : X.N.Nodup) (hi : X.N[i]? = some x) (hx : Loc X.env.scope x) (he : SEN X W e m) (hs : swapsWith e (some (.Name x pos')) pos.line X.env = pure false := by rfl)
    (hf : X.fn x = true ∨ X.env.scope.names.lookup x = some .local := by first | exact .inl rfl | exact .inr rfl | assumption) : SS X W (.Assign [.Name x pos'] e pos) (bd m fun u => bd (sto i u) fun _ => ret .nx) := by
  obtain ⟨t, p, he⟩ := he
  refine ⟨_, ps_set hN hi hx p hs hf, fun ρ s σ H D R k => he ρ s σ H _ R ?_⟩
  revert k
  unfold bd
  cases m s with
  | ok u s' =>
    intro k ρ' H' a h0 x e n R' ow
    dsimp only [sto] at k
    by_cases l : i < s'.env.length
    · simp only [if_pos l] at k
      exact k _ _ H' (give_ext e R' x h0) (R'.give e n ow l)
    · simp only [if_neg l] at k
      exact k.elim
  | err y s' => exact fun k ρ' H' cls d x R' r' => k ρ' σ H' cls d x R' r'
  | stuck => exact fun k => k

/-! ### displays -/
theorem sen_lst (h : SA X W es ms) : SEN X W (.List es pos) (bd ms mkL) := by
  obtain ⟨⟨t, p, h⟩, _⟩ := h
  refine ⟨_, pe_lst p, fun ρ s σ H Q R k => ?_⟩
  refine h ρ s σ H _ R (k.bd fun us s1 ρ1 H1 vs _ x1 R1 r1 h1 => ?_)
  obtain ⟨e, h2⟩ := h1.when
  exact ⟨by rw [← r1.length]; exact of_decide_eq_true e, fun p hp => h2.lay R1 hp fun U e => ⟨vs, e, r1.up U⟩⟩

/-! ### readings of their own -/
abbrev tE (X : Cx) (W : WX) (m : M U) : TE := fun σ H Q => ∃ ρ s, Rl (gx X) ρ s σ H ∧ OkV X W ρ σ H (m s) Q
abbrev tT (X : Cx) (W : WX) (m : M Bool) : TT := fun σ H Q => ∃ ρ s, Rl (gx X) ρ s σ H ∧ OkB X W ρ σ H (m s) Q
abbrev tI (X : Cx) (W : WX) (m : M (List U)) : TI := fun σ H R => ∃ ρ s, Rl (gx X) ρ s σ H ∧ Ok X W (fun ρ' H' xs J => Walks X J xs ρ' H') ρ σ H (m s) R
theorem PE.mono {t t' : TE} (p : PE X e t) (h : ∀ σ H Q, t' σ H Q → t σ H Q) : PE X e t' := ⟨fun pins s σ H Q I k => p.run pins s σ H Q I (h σ H Q k)⟩
theorem SE.pe (h : SE X W e m) : PE X e (tE X W m) := by
  obtain ⟨t, p, h⟩ := h
  exact PE.mono p fun σ H Q ⟨ρ, s, R, k⟩ => h ρ s σ H Q R k
theorem ST.pt (h : ST X W e mt) : PT X e (tT X W mt) := by
  obtain ⟨t, p, h⟩ := h
  exact ⟨fun pins s σ H Q I ⟨ρ, s', R, k⟩ => p.run pins s σ H Q I (h ρ s' σ H Q R k)⟩
theorem STs.pts (h : STs X W ifs mt) : PTs X ifs (tT X W mt) := by
  obtain ⟨t, p, h⟩ := h
  exact ⟨fun pins s σ H Q I ⟨ρ, s', R, k⟩ => p.run pins s σ H Q I (h ρ s' σ H Q R k)⟩
theorem SI.pi {mi : M (List U)} (h : SI X W tg e mi) : PI X tg e (tI X W mi) := by
  obtain ⟨t, p, h⟩ := h
  exact ⟨fun pins s σ H Q I ⟨ρ, s', R, k⟩ => p.run pins s σ H Q I (h ρ s' σ H Q R k)⟩
theorem sts_nil : STs X W [] (ret true) := ⟨_, pts_nil, fun ρ s σ H Q R h => h.ret R rfl⟩
theorem sts_one (h : ST X W e mt) : STs X W [e] mt := ⟨_, pts_one h.pt, fun ρ s σ H Q R k => ⟨ρ, s, R, k⟩⟩

/-! ### the block of a comprehension -/
abbrev Cx.bk (X : Cx) (scope : Scope) (s : Shared) (H : Hp) (C : Addr) (cl : List (Str × Addr)) (fp : List Addr) : Cx := X.blk s H scope (compEnvC scope cl C X.env) fp
/-- over every context of the block -/
def SB (X : Cx) (scope : Scope) (P : Cx → Prop) : Prop := ∀ (s : Shared) (H : Hp) (C : Addr) (cl : List (Str × Addr)) (fp : List Addr), P (Cx.bk X scope s H C cl fp)
def SGB (X : Cx) (scope : Scope) (vs : List Nat) (tg : Expr) (g : U → M Unit) : Prop := ∃ t : TG, SB X scope (fun Y => PG Y tg t) ∧ SGb X W0 vs tg t g
def SGBs (X : Cx) (scope : Scope) (vs : List Nat) (ts : List Expr) (g : List U → M Unit) : Prop := ∃ t : TGs, SB X scope (fun Y => PGs Y ts t) ∧ SGbs X W0 vs t g
theorem sgB_name {scope : Scope} {i : Nat} {x : Str} (hN : X.N.Nodup) (hi : X.N[i]? = some x) (hx : Loc (PySem.relabel scope X.env) x) (hf : (scope.names.lookup x == some .cell) = true ∨ (PySem.relabel scope X.env).names.lookup x = some .local) (hv : i ∈ vs) : SGB X scope vs (.Name x pos) (stv i) :=
  ⟨_, fun s H C cl fp => pg_name (X := Cx.bk X scope s H C cl fp) hN hi (show Loc (PySem.relabel scope X.env) x from hx) hf, sgb_name hv⟩
theorem sgBs_nil {scope : Scope} : SGBs X scope vs [] gnil := ⟨_, fun s H C cl fp => pgs_nil, sgbs_nil⟩
theorem sgBs_cons {scope : Scope} {ts : List Expr} (h1 : SGB X scope vs tg g) (h2 : SGBs X scope vs ts gs) (hs : ∀ env, (assignEach (tg :: ts) env).map (·.2) = assign tg env :: (assignEach ts env).map (·.2) := by intro _; rfl) : SGBs X scope vs (tg :: ts) (gcons g gs) := by
  obtain ⟨t, p, h1⟩ := h1
  obtain ⟨u, q, h2⟩ := h2
  exact ⟨_, fun s H C cl fp => pgs_cons (p s H C cl fp) (q s H C cl fp) (hs _), sgbs_cons h1 h2⟩
theorem sgB_tup {scope : Scope} {ts : List Expr} {k n : Nat} (hc : X.calm = true) (h : SGBs X scope vs ts gs) (hn : ∀ env, (assignEach ts env).length = n := by intro _; rfl) (hst : ∀ env, (assignEach ts env).findIdx? (·.1) = none := by intro _; rfl) : SGB X scope vs (.Tuple ts k pos) (gtup n gs) := by
  obtain ⟨t, p, h⟩ := h
  exact ⟨_, fun s H C cl fp => pg_seq (X := Cx.bk X scope s H C cl fp) hc (p s H C cl fp) (hn _) (hst _), sgb_tup h⟩
theorem se_lc {elt iter : Expr} {scope : Scope} {own : List (Str × Nat)} {mi : M (List U)} (hc : X.calm = true) (hN : X.N.Nodup) (hi : SI X W tg iter mi) (ok : BlkOk X.N X.env.scope scope own) (hg : SGB X scope (own.map (·.2)) tg g) (ht : SB X scope fun Y => STs Y W0 ifs mt) (he : SB X scope fun Y => SE Y W0 elt m)
    (hs : ∀ x, foldedSetIterable iter X.env x = pure x := by intro _; rfl) : SE X W (.ListComp elt [⟨tg, iter, ifs, 0⟩] scope pos) (lcM (own.map (·.2)) mi g mt m) := by
  obtain ⟨wi, pi, hi⟩ := hi
  obtain ⟨tg', pg, hg⟩ := hg
  exact ⟨_, pe_lc (te := tE X W0 m) (tt := tT X W0 mt) hc hN pi ok pg (fun s H C cl fp => (ht s H C cl fp).pts) (fun s H C cl fp => (he s H C cl fp).pe) hs, slc (te := tE X W0 m) (tt := tT X W0 mt) hi hg (fun ρ s σ H Q R k => ⟨ρ, s, R, k⟩) fun ρ s σ H Q R k => ⟨ρ, s, R, k⟩⟩
theorem se_dc {kx vx iter : Expr} {scope : Scope} {own : List (Str × Nat)} {mi : M (List U)} {mk : M U} (hc : X.calm = true) (hN : X.N.Nodup) (hi : SI X W tg iter mi) (ok : BlkOk X.N X.env.scope scope own) (hg : SGB X scope (own.map (·.2)) tg g) (ht : SB X scope fun Y => STs Y W0 ifs mt) (hk : SB X scope fun Y => SE Y W0 kx mk) (he : SB X scope fun Y => SE Y W0 vx m)
    (hs : ∀ x, foldedSetIterable iter X.env x = pure x := by intro _; rfl) : SE X W (.DictComp kx vx [⟨tg, iter, ifs, 0⟩] scope pos) (dcM (own.map (·.2)) mi g mt mk m) := by
  obtain ⟨wi, pi, hi⟩ := hi
  obtain ⟨tg', pg, hg⟩ := hg
  exact ⟨_, pe_dc (tv := tE X W0 m) (tk := tE X W0 mk) (tt := tT X W0 mt) hc hN pi ok pg (fun s H C cl fp => (ht s H C cl fp).pts) (fun s H C cl fp => (hk s H C cl fp).pe) (fun s H C cl fp => (he s H C cl fp).pe) hs,
    sdc (te := tE X W0 m) (tk := tE X W0 mk) (tt := tT X W0 mt) hi hg (fun ρ s σ H Q R k => ⟨ρ, s, R, k⟩) (fun ρ s σ H Q R k => ⟨ρ, s, R, k⟩) fun ρ s σ H Q R k => ⟨ρ, s, R, k⟩⟩
/-- name = [e for ..] on one line -/
theorem ss_setLc {elt iter : Expr} {scope : Scope} {own : List (Str × Nat)} {mi : M (List U)} {i : Nat} {y : Str} {py spos : Pos} (hc : X.calm = true) (hN : X.N.Nodup) (hy : X.N[i]? = some y) (hyl : X.env.scope.names.lookup y = some .local)
    (hsw : swapsWith (.ListComp elt [⟨tg, iter, ifs, 0⟩] scope pos) (some (.Name y py)) spos.line X.env = pure true) (hi : SI X W tg iter mi) (ok : BlkOk X.N X.env.scope scope own) (hg : SGB X scope (own.map (·.2)) tg g) (ht : SB X scope fun Y => STs Y W0 ifs mt) (he : SB X scope fun Y => SE Y W0 elt m)
    (hs : ∀ x, foldedSetIterable iter X.env x = pure x := by intro _; rfl) : SS X W (.Assign [.Name y py] (.ListComp elt [⟨tg, iter, ifs, 0⟩] scope pos) spos) (bd (lcM (own.map (·.2)) mi g mt m) fun u => bd (stv i u) fun _ => ret .nx) := by
  obtain ⟨wi, pi, hi⟩ := hi
  obtain ⟨tg', pg, hg⟩ := hg
  refine ⟨_, ps_setLc (te := tE X W0 m) (tt := tT X W0 mt) hc hN hy hyl hsw pi ok pg (fun s H C cl fp => (ht s H C cl fp).pts) (fun s H C cl fp => (he s H C cl fp).pe) hs, fun ρ s σ H D R k => ?_⟩
  refine slc (te := tE X W0 m) (tt := tT X W0 mt) hi hg (fun ρ s σ H Q R k => ⟨ρ, s, R, k⟩) (fun ρ s σ H Q R k => ⟨ρ, s, R, k⟩) ρ s σ H _ R (OkS.bdE k fun u s1 ρ1 H1 v _ x1 R1 r1 h1 => ?_)
  exact h1 _ _ H1 free_ext (R1.set i r1)
end
end Mi

/-! Mini J: operators, built-ins by contents. -/
namespace Mi
open PySem PySem.Spec PyProof.Rows L2

def rC (X : Cx) (W : WX) (g : U → U → M U) : R2 := fun v w H Q => ∃ ρ s σ x y, Rl (gx X) ρ s σ H ∧ Con (gx X) ρ H x v ∧ Con (gx X) ρ H y w ∧ OkV X W ρ σ H (g x y s) Q
theorem bears_C {X : Cx} {W : WX} {g : U → U → M U} : Bears X W (rC X W g) g := fun ρ s σ H x y v w Q R c1 c2 h => ⟨ρ, s, σ, x, y, R, c1, c2, h⟩
def rCA (X : Cx) (W : WX) (g : List U → M U) : List V → Hp → VK → Prop := fun vs H Q => ∃ ρ s σ us, Rl (gx X) ρ s σ H ∧ Paired (Con (gx X) ρ H) us vs ∧ OkV X W ρ σ H (g us s) Q
theorem bears_CA {X : Cx} {W : WX} {g : List U → M U} : BearsA X W (rCA X W g) g := fun ρ s σ H us vs Q R c h => ⟨ρ, s, σ, us, R, c, h⟩
def rC1 (X : Cx) (W : WX) (g : U → M U) : V → Hp → VK → Prop := fun v H Q => ∃ ρ s σ x, Rl (gx X) ρ s σ H ∧ Con (gx X) ρ H x v ∧ OkV X W ρ σ H (g x s) Q

section
variable {X : Cx} {W : WX} {e a b c o : Expr} {es rest : List Expr} {m ma mb mc : M U} {ms : M (List U)} {mt mt2 : M Bool} {pos : Pos}

/-! ### int, str, list, tuple -/
def addU : U → U → M U
  | .int i, .int j => ret (.int (i + j))
  | .str x, .str y => when (decide (x.length + y.length ≤ sizeLine)) (ret (.str (x ++ y)))
  | .lst us, .lst ws => when (decide (us.length + ws.length ≤ sizeLine)) (ret (.lst (us ++ ws)))
  | .tup us, .tup ws => when (decide (us.length + ws.length ≤ sizeLine)) (ret (.tup (us ++ ws)))
  | _, _ => stk
theorem ob_add : OpR X (binaryOp .Add) (rC X W addU) := by
  intro pins s σ H x y v u Q I rx ry ⟨ρ, s', σ', p, q, R, c1, c2, h⟩
  unfold addU at h
  split at h
  · cases c1.int; cases c2.int
    exact op_add pins s σ H _ _ v u Q I rx ry ⟨_, _, rfl, rfl, h.ret R .int⟩
  · cases c1.str; cases c2.str
    obtain ⟨e, h⟩ := h.when
    exact op_add_str pins s σ H _ _ v u Q I rx ry ⟨_, _, rfl, rfl, of_decide_eq_true e, h.ret R .str⟩
  · obtain ⟨p1, vs, rfl, q1, r1⟩ := c1.lst
    obtain ⟨p2, ws, rfl, q2, r2⟩ := c2.lst
    obtain ⟨e, h⟩ := h.when
    exact op_cat pins s σ H _ _ v u Q I rx ry ⟨_, _, vs, ws, rfl, rfl, q1, q2, by rw [← r1.length, ← r2.length]; exact of_decide_eq_true e, fun z hz => new_lst h R (r1.app r2) z hz⟩
  · obtain ⟨p1, vs, rfl, q1, r1⟩ := id c1.tup
    obtain ⟨p2, ws, rfl, q2, r2⟩ := id c2.tup
    obtain ⟨e, h⟩ := h.when
    have t1 := c1.resolve_right (fun ⟨_, _, z⟩ => z)
    have t2 := c2.resolve_right (fun ⟨_, _, z⟩ => z)
    refine op_catA pins s σ H _ _ v u Q I rx ry ⟨_, _, vs, ws, rfl, rfl, q1, q2, by rw [← r1.length, ← r2.length]; exact of_decide_eq_true e, fun z => ?_, fun _ z => ?_, fun _ _ z hz => new_tup h R (r1.app r2) z hz⟩
    · subst z
      cases r1
      exact h.ret R t2
    · subst z
      cases r2
      rw [List.append_nil] at h
      exact h.ret R t1
  · exact h.elim
def subU : U → U → M U
  | .int i, .int j => ret (.int (i - j))
  | _, _ => stk
theorem ob_sub : OpR X (binaryOp .Sub) (rC X W subU) := by
  intro pins s σ H x y v u Q I rx ry ⟨ρ, s', σ', p, q, R, c1, c2, h⟩
  unfold subU at h
  split at h
  · cases c1.int; cases c2.int
    exact op_sub pins s σ H _ _ v u Q I rx ry ⟨_, _, rfl, rfl, h.ret R .int⟩
  · exact h.elim
/-- two factors that may be multiplied: small together, or one of them small -/
def mulOk (i j : Int) : Bool := decide (i.natAbs.log2 + j.natAbs.log2 < 1000000) || (decide (i.natAbs < 2 ^ 64) || decide (j.natAbs < 2 ^ 64))
def CMulA (i j : Int) : Prop := CMulW i j ∨ CMul i j
theorem mulOk_ok {i j : Int} (h : mulOk i j = true) : CMulA i j := by
  unfold mulOk at h
  simp only [Bool.or_eq_true] at h
  rcases h with h | h | h
  · exact .inl (of_decide_eq_true (p := i.natAbs.log2 + j.natAbs.log2 < 1000000) h)
  · have h := of_decide_eq_true h; exact .inr (.inl (by omega))
  · have h := of_decide_eq_true h; exact .inr (.inr (by omega))
theorem op_mulA {X : Cx} : OpR X (binaryOp .Mult) (rI CMulA fun i j => .int (i * j)) := opI fun _ _ _ _ _ _ _ hc q => mul_int q (hc.elim CMulW.ok CMul.ok)
def mulU : U → U → M U
  | .int i, .int j => when (mulOk i j) (ret (.int (i * j)))
  | .lst us, .int k => when (decide (0 ≤ k) && decide (k < 2 ^ 63) && decide (us.length * k.toNat ≤ sizeLine)) (ret (.lst (List.replicate k.toNat us).flatten))
  | .str x, .int k => when (decide (0 ≤ k) && decide (k < 1000) && decide (x.length ≤ 1000)) (ret (.str (Txt.mul x k)))
  | _, _ => stk
theorem mulOk_txt {x : Str} {k : Int} (h0 : 0 ≤ k) (h1 : k < 1000) (h2 : x.length ≤ 1000) : MulOk x k := by
  refine ⟨by simp; omega, fun h _ => ?_, fun h _ => ?_⟩
  · have e : (1000 : Int) ≤ (2 ^ 63 - 1) / k := by
      rw [Int.le_ediv_iff_mul_le (by omega)]
      omega
    omega
  · have m : x.length * k.toNat ≤ 1000 * 1000 := Nat.mul_le_mul h2 (by omega)
    have z : x.length * k.toNat ≤ sizeLine := Nat.le_trans m (by decide)
    unfold Builtin.Str.tooLong
    simp
    omega
theorem reps_rep {G : Gx} {ρ : Rho} {H : Hp} {us : List U} {vs : List V} (r : Reps G ρ H us vs) : ∀ n : Nat, Reps G ρ H (List.replicate n us).flatten (List.replicate n vs).flatten
  | 0 => .nil
  | n + 1 => by
    rw [List.replicate_succ, List.replicate_succ, List.flatten_cons, List.flatten_cons]
    exact r.app (reps_rep r n)
theorem ob_mul : OpR X (binaryOp .Mult) (rC X W mulU) := by
  intro pins s σ H x y v u Q I rx ry ⟨ρ, s', σ', p, q, R, c1, c2, h⟩
  unfold mulU at h
  split at h
  · cases c1.int; cases c2.int
    obtain ⟨e, h⟩ := h.when
    exact op_mulA pins s σ H _ _ v u Q I rx ry ⟨_, _, rfl, rfl, mulOk_ok e, h.ret R .int⟩
  · cases c2.int
    obtain ⟨p1, vs, rfl, q1, r1⟩ := c1.lst
    obtain ⟨e, h⟩ := h.when
    simp only [Bool.and_eq_true, decide_eq_true_eq] at e
    exact op_rep pins s σ H _ _ v u Q I rx ry ⟨_, _, vs, rfl, rfl, q1, by omega, e.1.2, by rw [← r1.length]; exact e.2, fun z hz => new_lst h R (reps_rep r1 _) z hz⟩
  · cases c1.str; cases c2.int
    obtain ⟨e, h⟩ := h.when
    simp only [Bool.and_eq_true, decide_eq_true_eq] at e
    obtain ⟨t1, rfl⟩ := rx
    obtain ⟨t2, rfl⟩ := ry
    exact PySem.SB.mul (mulOk_txt e.1.1 e.1.2 e.2) fun t' k => ⟨.str _, H, I.tok k, ⟨_, rfl⟩, h.ret R .str⟩
  · exact h.elim
def CDivF (i j : Int) : Prop := j ≠ 0 ∧ j.natAbs.log2 < 9000
theorem op_fdivF : OpR X (binaryOp .FloorDiv) (rI CDivF fun i j => .int (i.fdiv j)) := opI fun i j _ _ _ _ _ hc q => floordiv_int hc.1 q (.inl (PyProof.noPylong_of_log2 hc.2))
def divOk (j : Int) : Bool := decide (j ≠ 0) && decide (j.natAbs.log2 < 9000)
def fdivU : U → U → M U
  | .int i, .int j => when (divOk j) (ret (.int (i.fdiv j)))
  | _, _ => stk
theorem ob_fdiv : OpR X (binaryOp .FloorDiv) (rC X W fdivU) := by
  intro pins s σ H x y v u Q I rx ry ⟨ρ, s', σ', p, q, R, c1, c2, h⟩
  unfold fdivU at h
  split at h
  · cases c1.int; cases c2.int
    obtain ⟨e, h⟩ := h.when
    unfold divOk at e
    simp only [Bool.and_eq_true, decide_eq_true_eq] at e
    exact op_fdivF pins s σ H _ _ v u Q I rx ry ⟨_, _, rfl, rfl, e, h.ret R .int⟩
  · exact h.elim
def modU : U → U → M U
  | .int i, .int j => when (decide (j ≠ 0)) (ret (.int (i.fmod j)))
  | _, _ => stk
theorem ob_mod : OpR X (binaryOp .Mod) (rC X W modU) := by
  intro pins s σ H x y v u Q I rx ry ⟨ρ, s', σ', p, q, R, c1, c2, h⟩
  unfold modU at h
  split at h
  · cases c1.int; cases c2.int
    obtain ⟨e, h⟩ := h.when
    exact op_modN pins s σ H _ _ v u Q I rx ry ⟨_, _, rfl, rfl, of_decide_eq_true e, h.ret R .int⟩
  · exact h.elim
def powU : U → U → M U
  | .int i, .int j => when (decide (0 ≤ j) && decide (j ≤ 1000000) && decide (i.natAbs < 2 ^ 64)) (ret (.int (i ^ j.toNat)))
  | _, _ => stk
theorem ob_pow : OpR X (binaryOp .Pow) (rC X W powU) := by
  intro pins s σ H x y v u Q I rx ry ⟨ρ, s', σ', p, q, R, c1, c2, h⟩
  unfold powU at h
  split at h
  · cases c1.int; cases c2.int
    obtain ⟨e, h⟩ := h.when
    simp only [Bool.and_eq_true, decide_eq_true_eq] at e
    exact op_pow pins s σ H _ _ v u Q I rx ry ⟨_, _, rfl, rfl, ⟨e.1.1, e.1.2, e.2⟩, h.ret R .int⟩
  · exact h.elim
def iaddU : U → U → M U
  | .int i, .int j => ret (.int (i + j))
  | _, _ => stk
theorem oi_add : OpR X (inplaceOp .Add) (rC X W iaddU) := by
  intro pins s σ H x y v u Q I rx ry ⟨ρ, s', σ', p, q, R, c1, c2, h⟩
  unfold iaddU at h
  split at h
  · cases c1.int; cases c2.int
    exact iop_add pins s σ H _ _ v u Q I rx ry ⟨_, _, rfl, rfl, h.ret R .int⟩
  · exact h.elim

/-! ### order of ints -/
def ordU (r : Int → Int → Bool) : U → U → M U
  | .int i, .int j => ret (.bl (r i j))
  | _, _ => stk
theorem ord_of {f : Value → Value → Sem Value} {r : Int → Int → Bool} (hf : OpR X f (rI0 fun i j => .bl (r i j))) : OpR X f (rC X W (ordU r)) := by
  intro pins s σ H x y v u Q I rx ry ⟨ρ, s', σ', p, q, R, c1, c2, h⟩
  unfold ordU at h
  split at h
  · cases c1.int; cases c2.int
    exact hf pins s σ H _ _ v u Q I rx ry ⟨_, _, rfl, rfl, h.ret R .bl⟩
  · exact h.elim
abbrev ltI : Int → Int → Bool := fun i j => decide (i < j)
abbrev leI : Int → Int → Bool := fun i j => decide (i ≤ j)
abbrev gtI : Int → Int → Bool := fun i j => decide (j < i)
abbrev geI : Int → Int → Bool := fun i j => decide (j ≤ i)
theorem oc_lt : OpR X (compareOp .Lt) (rC X W (ordU ltI)) := ord_of op_lt
theorem oc_le : OpR X (compareOp .LtE) (rC X W (ordU leI)) := ord_of op_le
theorem oc_gt : OpR X (compareOp .Gt) (rC X W (ordU gtI)) := ord_of op_gt
theorem oc_ge : OpR X (compareOp .GtE) (rC X W (ordU geI)) := ord_of op_ge

/-! ### == by data -/
mutual
def dat : U → Option PyData
  | .non => some .none
  | .bl b => some (.bool b)
  | .int i => some (.int i)
  | .str x => some (.str x)
  | .tup us => (dats us).map .tuple
  | .lst us => (dats us).map .list
  | .kl us => (dats us).map .list
  | _ => none
def dats : List U → Option (List PyData)
  | [] => some []
  | u :: us => match dat u, dats us with
    | some d, some ds => some (d :: ds)
    | _, _ => none
end
mutual
theorem dat_ok {G : Gx} {ρ : Rho} {H : Hp} : ∀ {u : U} {v : V} {d : PyData}, Rep G ρ H u v → dat u = some d → Dp G.K H v d
  | _, _, _, .non, e => by cases e; exact .non
  | _, _, _, .bl, e => by cases e; exact .bl _
  | _, _, _, .int, e => by cases e; exact .int _
  | _, _, _, .str, e => by cases e; exact .str _
  | _, _, _, .tup h r, e => by
    obtain ⟨ds, e1, rfl⟩ := Option.map_eq_some_iff.mp (show (dats _).map PyData.tuple = some _ from e)
    exact .tup h.sq (dats_ok r e1)
  | _, _, _, .lst h r, e => by
    obtain ⟨ds, e1, rfl⟩ := Option.map_eq_some_iff.mp (show (dats _).map PyData.list = some _ from e)
    exact .lst h.sq (dats_ok r e1)
  | _, _, _, .kl h r, e => by
    obtain ⟨ds, e1, rfl⟩ := Option.map_eq_some_iff.mp (show (dats _).map PyData.list = some _ from e)
    exact .lst h.sq (dats_ok r e1)
  | _, _, _, .dK _ _ _, e => by cases e
  | _, _, _, .dT _ _ _, e => by cases e
  | _, _, _, .obj _ _ _ _, e => by cases e
  | _, _, _, .exc _ _ _ _ _ _ _, e => by cases e
  | _, _, _, .cls _, e => by cases e
  | _, _, _, .ty, e => by cases e
  | _, _, _, .ref _, e => by cases e
theorem dats_ok {G : Gx} {ρ : Rho} {H : Hp} : ∀ {us : List U} {vs : List V} {ds : List PyData}, Reps G ρ H us vs → dats us = some ds → DpAll G.K H vs ds
  | _, _, _, .nil, e => by cases e; exact .nil
  | u :: us, _, _, .cons h r, e => by
    have e : (match dat u, dats us with | some d, some ds => some (d :: ds) | _, _ => none) = some _ := e
    cases q1 : dat u with
    | none => rw [q1] at e; cases e
    | some d =>
      cases q2 : dats us with
      | none => rw [q1, q2] at e; cases e
      | some ds => rw [q1, q2] at e; cases e; exact .cons (dat_ok h q1) (dats_ok r q2)
end
theorem con_dat {G : Gx} {ρ : Rho} {H : Hp} {u : U} {v : V} {d : PyData} (h : Con G ρ H u v) (e : dat u = some d) : Dp G.K H v d := by
  rcases h with h | ⟨a, rfl, q⟩
  · exact dat_ok h e
  · cases u with
    | lst us =>
      obtain ⟨vs, e1, r⟩ := q
      obtain ⟨ds, e2, rfl⟩ := Option.map_eq_some_iff.mp (show (dats us).map PyData.list = some _ from e)
      exact .lst (.of e1) (dats_ok r e2)
    | dK us => cases e
    | dT us => cases e
    | obj c us => cases e
    | tbl z => cases e
    | _ => exact q.elim
def eqU (neg : Bool) (x y : U) : M U := match dat x, dat y with
  | some d, some e => when (SeqAt.shaped d && SeqAt.shaped e) (ret (.bl (xor neg (PyData.eqv d e))))
  | _, _ => stk
theorem eqU_ok {neg : Bool} {x y : U} {ρ : Rho} {s : MS} {σ : L2.St} {H : Hp} {v w : V} {Q : VK} (R : Rl (gx X) ρ s σ H) (c1 : Con (gx X) ρ H x v) (c2 : Con (gx X) ρ H y w) (h : OkV X W ρ σ H (eqU neg x y s) Q) :
    ∃ d e, Dp X.K H v d ∧ Dp X.K H w e ∧ SeqAt.shaped d = true ∧ SeqAt.shaped e = true ∧ Q (.bl (xor neg (PyData.eqv d e))) H := by
  unfold eqU at h
  cases h1 : dat x with
  | none => simp only [h1] at h; exact h.elim
  | some d =>
    cases h2 : dat y with
    | none => simp only [h1, h2] at h; exact h.elim
    | some e =>
      simp only [h1, h2] at h
      obtain ⟨z, h⟩ := h.when
      rw [Bool.and_eq_true] at z
      exact ⟨d, e, con_dat c1 h1, con_dat c2 h2, z.1, z.2, h.ret R .bl⟩
theorem oc_eq (hu : X.A.units + 64 < cLine) : OpR X (compareOp .Eq) (rC X W (eqU false)) := by
  intro pins s σ H x y v u Q I rx ry ⟨ρ, s', σ', p, q, R, c1, c2, h⟩
  obtain ⟨d, e, h1, h2, h3, h4, h5⟩ := eqU_ok R c1 c2 h
  rw [Bool.false_xor] at h5
  exact op_eqD hu pins s σ H _ _ v u Q I rx ry ⟨d, e, h1, h2, h3, h4, h5⟩
theorem oc_ne (hu : X.A.units + 64 < cLine) : OpR X (compareOp .NotEq) (rC X W (eqU true)) := by
  intro pins s σ H x y v u Q I rx ry ⟨ρ, s', σ', p, q, R, c1, c2, h⟩
  obtain ⟨d, e, h1, h2, h3, h4, h5⟩ := eqU_ok R c1 c2 h
  rw [Bool.true_xor] at h5
  exact op_neD hu pins s σ H _ _ v u Q I rx ry ⟨d, e, h1, h2, h3, h4, h5⟩

/-! ### is None -/
def isNonU : U → Option Bool
  | .non => some true
  | .slot _ => none
  | _ => some false
theorem isNon_ok {G : Gx} {ρ : Rho} {H : Hp} {u : U} {v : V} {b : Bool} (h : Con G ρ H u v) (e : isNonU u = some b) : decide (v = .non) = b := by
  rcases h with h | ⟨a, rfl, q⟩
  · cases h <;> cases e <;> rfl
  · cases u with
    | non => exact q.elim
    | slot => exact q.elim
    | _ => cases e; rfl
def isU (neg : Bool) (x y : U) : M U := match y with
  | .non => (match isNonU x with
    | some b => ret (.bl (xor neg b))
    | none => stk)
  | _ => stk
theorem isU_ok {neg : Bool} {x y : U} {ρ : Rho} {s : MS} {σ : L2.St} {H : Hp} {v w : V} {Q : VK} (R : Rl (gx X) ρ s σ H) (c1 : Con (gx X) ρ H x v) (c2 : Con (gx X) ρ H y w) (h : OkV X W ρ σ H (isU neg x y s) Q) :
    w = .non ∧ Q (.bl (xor neg (decide (v = .non)))) H := by
  unfold isU at h
  split at h
  · cases e : isNonU x with
    | none => simp only [e] at h; exact h.elim
    | some b =>
      simp only [e] at h
      refine ⟨c2.non, ?_⟩
      rw [isNon_ok c1 e]
      exact h.ret R .bl
  · exact h.elim
theorem oc_is : OpR X (compareOp .Is) (rC X W (isU false)) := by
  intro pins s σ H x y v u Q I rx ry ⟨ρ, s', σ', p, q, R, c1, c2, h⟩
  obtain ⟨e, h5⟩ := isU_ok R c1 c2 h
  rw [Bool.false_xor] at h5
  exact op_isN pins s σ H _ _ v u Q I rx ry ⟨e, h5⟩
theorem oc_isnot : OpR X (compareOp .IsNot) (rC X W (isU true)) := by
  intro pins s σ H x y v u Q I rx ry ⟨ρ, s', σ', p, q, R, c1, c2, h⟩
  obtain ⟨e, h5⟩ := isU_ok R c1 c2 h
  rw [Bool.true_xor] at h5
  exact op_notN pins s σ H _ _ v u Q I rx ry ⟨e, h5⟩

/-! ### in -/
theorem con_key {G : Gx} {ρ : Rho} {H : Hp} {u : U} {v : V} {k : Key} (c : Con G ρ H u v) (e : keyU u = some k) : v = kV k := by
  rcases c with c | ⟨a, rfl, q⟩
  · exact keyU_ok c e
  · cases u <;> first | exact q.elim | cases e
theorem RepD.getO {G : Gx} {ρ : Rho} {H : Hp} {us : List (Key × U)} {vs : List (Key × V)} (r : RepD G ρ H us vs) (k : Key) : (valV vs k).isSome = (getG us k).isSome := by
  obtain ⟨h1, h2⟩ := r.get (k := k)
  cases q : getG us k with
  | none => rw [h2 q]; rfl
  | some u => obtain ⟨v, e, _⟩ := h1 u q; rw [e]; rfl
def anyD (ds : List PyData) (d : PyData) : Bool := ds.any fun z => PyData.eqv z d
def flatU : U → Option V
  | .non => some .non
  | .bl b => some (.bl b)
  | .int i => some (.int i)
  | .str x => some (.str x)
  | _ => none
def flatsU : List U → Option (List V)
  | [] => some []
  | u :: us => match flatU u, flatsU us with
    | some v, some vs => some (v :: vs)
    | _, _ => none
theorem flatU_ok {G : Gx} {ρ : Rho} {H : Hp} {u : U} {v w : V} (c : Con G ρ H u v) (e : flatU u = some w) : v = w ∧ flatV w = true := by
  rcases c with c | ⟨a, rfl, q⟩
  · cases c <;> cases e <;> exact ⟨rfl, rfl⟩
  · cases u <;> first | exact q.elim | cases e
theorem flatsU_ok {G : Gx} {ρ : Rho} {H : Hp} : ∀ {us : List U} {vs ws : List V}, Reps G ρ H us vs → flatsU us = some ws → vs = ws ∧ ws.all flatV = true
  | _, _, _, .nil, e => by cases e; exact ⟨rfl, rfl⟩
  | u :: us, _, _, .cons h r, e => by
    have e : (match flatU u, flatsU us with | some d, some ds => some (d :: ds) | _, _ => none) = some _ := e
    cases q1 : flatU u with
    | none => rw [q1] at e; cases e
    | some d =>
      cases q2 : flatsU us with
      | none => rw [q1, q2] at e; cases e
      | some ds =>
        rw [q1, q2] at e; cases e
        obtain ⟨h1, h2⟩ := flatU_ok (.inl h) q1
        obtain ⟨h3, h4⟩ := flatsU_ok r q2
        exact ⟨by rw [h1, h3], by rw [List.all_cons, h2, h4] <;> rfl⟩
def inU (neg : Bool) (x y : U) : M U := match y with
  | .str z => (match x with
    | .str a => ret (.bl (xor neg (!(Builtin.Str.occurrences z a 0 z.length 1).isEmpty)))
    | _ => stk)
  | .dK kvs => (match keyU x with
    | some k => ret (.bl (xor neg (getG kvs k).isSome))
    | none => stk)
  | .tup us => (match flatU x, flatsU us with
    | some v, some vs => ret (.bl (xor neg (inV v vs)))
    | _, _ => stk)
  | .lst us => (match dat x, dats us with
    | some d, some ds => when (SeqAt.shaped d && SeqAt.shaped (.list ds)) (ret (.bl (xor neg (anyD ds d))))
    | _, _ => stk)
  | _ => stk
theorem oc_in (hu : X.A.units + 65 < cLine) : OpR X (compareOp .In) (rC X W (inU false)) := by
  intro pins s σ H x y v u Q I rx ry ⟨ρ, s', σ', p, q, R, c1, c2, h⟩
  unfold inU at h
  split at h
  · split at h
    · cases c1.str; cases c2.str
      exact op_in_str pins s σ H _ _ v u Q I rx ry ⟨_, _, rfl, rfl, by rw [Bool.false_xor] at h; exact h.ret R .bl⟩
    · exact h.elim
  · cases ek : keyU p with
    | none => simp only [ek] at h; exact h.elim
    | some k =>
      simp only [ek] at h
      obtain ⟨d, vs, rfl, e, r⟩ := c2.dK
      have ev := con_key c1 ek
      subst ev
      cases ry
      rw [← r.getO, Bool.false_xor] at h
      exact d_in (by omega) I (.inl ⟨vs, k, e, rfl, rfl⟩) rx fun s1 I1 => ⟨.bl _, H, I1, rfl, h.ret R .bl⟩
  · rename_i us
    cases e1 : flatU p with
    | none => simp only [e1] at h; exact h.elim
    | some v0 =>
      cases e2 : flatsU us with
      | none => simp only [e1, e2] at h; exact h.elim
      | some vs0 =>
        simp only [e1, e2] at h
        obtain ⟨p2, ws, rfl, q2, r2⟩ := c2.tup
        obtain ⟨h1, h2⟩ := flatU_ok c1 e1
        obtain ⟨h3, h4⟩ := flatsU_ok r2 e2
        subst h1 h3
        rw [Bool.false_xor] at h
        exact op_in_seq pins s σ H _ _ v u Q I rx ry ⟨_, _, rfl, .inr q2, h2, h4, h.ret R .bl⟩
  · rename_i us
    cases e1 : dat p with
    | none => simp only [e1] at h; exact h.elim
    | some d =>
      cases e2 : dats us with
      | none => simp only [e1, e2] at h; exact h.elim
      | some ds =>
        simp only [e1, e2] at h
        obtain ⟨p2, ws, rfl, q2, r2⟩ := c2.lst
        obtain ⟨z, h⟩ := h.when
        rw [Bool.and_eq_true] at z
        rw [Bool.false_xor] at h
        exact op_inD hu pins s σ H _ _ v u Q I rx ry ⟨d, ds, con_dat c1 e1, .lst (.of q2) (dats_ok r2 e2), z.1, z.2, h.ret R .bl⟩
  · exact h.elim
theorem oc_notin (hu : X.A.units + 65 < cLine) : OpR X (compareOp .NotIn) (rC X W (inU true)) := by
  intro pins s σ H x y v u Q I rx ry ⟨ρ, s', σ', p, q, R, c1, c2, h⟩
  unfold inU at h
  split at h
  · split at h
    · cases c1.str; cases c2.str
      exact op_notIn_str pins s σ H _ _ v u Q I rx ry ⟨_, _, rfl, rfl, by rw [Bool.true_xor] at h; exact h.ret R .bl⟩
    · exact h.elim
  · cases ek : keyU p with
    | none => simp only [ek] at h; exact h.elim
    | some k =>
      simp only [ek] at h
      obtain ⟨d, vs, rfl, e, r⟩ := c2.dK
      have ev := con_key c1 ek
      subst ev
      cases ry
      rw [← r.getO, Bool.true_xor] at h
      exact d_notIn (by omega) I (.inl ⟨vs, k, e, rfl, rfl⟩) rx fun s1 I1 => ⟨.bl _, H, I1, rfl, h.ret R .bl⟩
  · rename_i us
    cases e1 : flatU p with
    | none => simp only [e1] at h; exact h.elim
    | some v0 =>
      cases e2 : flatsU us with
      | none => simp only [e1, e2] at h; exact h.elim
      | some vs0 =>
        simp only [e1, e2] at h
        obtain ⟨p2, ws, rfl, q2, r2⟩ := c2.tup
        obtain ⟨h1, h2⟩ := flatU_ok c1 e1
        obtain ⟨h3, h4⟩ := flatsU_ok r2 e2
        subst h1 h3
        rw [Bool.true_xor] at h
        exact op_notIn_seq pins s σ H _ _ v u Q I rx ry ⟨_, _, rfl, .inr q2, h2, h4, h.ret R .bl⟩
  · rename_i us
    cases e1 : dat p with
    | none => simp only [e1] at h; exact h.elim
    | some d =>
      cases e2 : dats us with
      | none => simp only [e1, e2] at h; exact h.elim
      | some ds =>
        simp only [e1, e2] at h
        obtain ⟨p2, ws, rfl, q2, r2⟩ := c2.lst
        obtain ⟨z, h⟩ := h.when
        rw [Bool.and_eq_true] at z
        rw [Bool.true_xor] at h
        exact op_notInD hu pins s σ H _ _ v u Q I rx ry ⟨d, ds, con_dat c1 e1, .lst (.of q2) (dats_ok r2 e2), z.1, z.2, h.ret R .bl⟩
  · exact h.elim

/-! ### unary, not, and, or, if -/
def negU : U → M U
  | .int i => ret (.int (-i))
  | _ => stk
theorem se_neg (ha : SE0 X W a ma) : SE X W (.UnaryOp .USub a pos) (un negU ma) := by
  refine se_un un_neg (fun ρ s σ H x v Q R c h => ?_) ha
  unfold negU at h
  split at h
  · cases c.int; exact ⟨_, rfl, h.ret R .int⟩
  · exact h.elim
abbrev trV (m : M U) : M Bool := bd m fun u => bd (ct u) tru
def rTr (K : PySem.W.Frag) : V → Hp → (Bool → Hp → Prop) → Prop := fun x H Q => (∃ k, TruV K x H k ∧ Q k H) ∨ ∃ d kvs, x = .ref d ∧ Rd H d (.dK kvs) ∧ Q (!kvs.isEmpty) H
def truO : U → Option Bool
  | .non => some false
  | .bl b => some b
  | .int i => some (i != 0)
  | .str y => if y.length ≤ sizeLine then some ((y.length : Int) != 0) else none
  | .lst us => some (!us.isEmpty)
  | .tup us => some (!us.isEmpty)
  | .dK us => some (!us.isEmpty)
  | _ => none
def ofOB : Option Bool → M Bool
  | some k => ret k
  | none => stk
theorem tru_def (u : U) : tru u = ofOB (truO u) := by
  cases u with
  | str y =>
    unfold tru truO when
    by_cases h : y.length ≤ sizeLine
    · funext s; simp only [h, decide_true, if_true] <;> rfl
    · funext s; simp only [h, decide_false, if_false] <;> rfl
  | _ => rfl
theorem tru_con {ρ : Rho} {H : Hp} {u : U} {v : V} {k : Bool} (c1 : Con (gx X) ρ H u v) (e : truO u = some k) (Q : Bool → Hp → Prop) (q : Q k H) : rTr X.K v H Q := by
  cases u with
  | non => cases c1.non; cases e; exact .inl ⟨_, rfl, q⟩
  | bl b => cases c1.bl; cases e; exact .inl ⟨_, rfl, q⟩
  | int i => cases c1.int; cases e; exact .inl ⟨_, rfl, q⟩
  | str y =>
    cases c1.str
    have e : (if y.length ≤ sizeLine then some ((y.length : Int) != 0) else none) = some k := e
    by_cases h : y.length ≤ sizeLine
    · rw [if_pos h] at e; cases e; exact .inl ⟨_, ⟨h, rfl⟩, q⟩
    · rw [if_neg h] at e; cases e
  | lst us => obtain ⟨a, vs, rfl, p, r⟩ := c1.lst; cases e; exact .inl ⟨_, .inl ⟨vs, .of p, rfl⟩, by rw [← isEmpty_reps r]; exact q⟩
  | tup us => obtain ⟨a, vs, rfl, p, r⟩ := c1.tup; cases e; exact .inl ⟨_, .inr (.inl ⟨vs, p, rfl⟩), by rw [← isEmpty_reps r]; exact q⟩
  | dK us => obtain ⟨a, vs, rfl, p, r⟩ := c1.dK; cases e; exact .inr ⟨a, vs, rfl, p, by rw [← isEmpty_repd r]; exact q⟩
  | _ => cases e
theorem tru_run {ρ : Rho} {s : MS} {σ : L2.St} {H : Hp} {u : U} {v : V} {α β : Type} {R2 : Rho → Hp → α → β → Prop} {f : Bool → M α} {Q : β → Hp → Prop} (c : Con (gx X) ρ H u v) (h : Ok X W R2 ρ σ H (bd (tru u) f s) Q) :
    ∃ k, (∀ P : Bool → Hp → Prop, P k H → rTr X.K v H P) ∧ Ok X W R2 ρ σ H (f k s) Q := by
  rw [tru_def] at h
  cases q : truO u with
  | none => rw [q] at h; exact h.elim
  | some k => rw [q] at h; exact ⟨k, tru_con c q, h⟩
theorem pe_notR {r : V → Hp → (Bool → Hp → Prop) → Prop} {ta : TE} (ho : TruR X r) (ha : PE X a ta) : PE X (.UnaryOp .Not a pos) (fun σ H Q => ta σ H fun x H1 => r x H1 fun k H2 => Q (.bl (!k)) H2) :=
  ⟨fun pins s σ H Q I h => UnaryOp_ (thn (ha.run pins s σ H _ I h) fun v s1 ⟨x, H1, I1, r1, q1⟩ => not_of (thn (ho pins s1 σ H1 x v _ I1 r1 q1) fun k s2 ⟨H2, I2, q2⟩ => ⟨.bl (!k), H2, I2, rfl, q2⟩))⟩
theorem se_not (h : SE0 X W a m) : SE X W (.UnaryOp .Not a pos) (bd (trV m) fun k => ret (.bl (!k))) := by
  obtain ⟨t, p, h⟩ := h
  refine ⟨_, pe_notR (r := rTr X.K) tru_d p, fun ρ s σ H Q R k => ?_⟩
  refine h ρ s σ H _ R ?_
  have k2 : OkV X W ρ σ H (bd m (fun u => bd (ct u) fun u' => bd (tru u') fun k => ret (.bl (!k))) s) Q := by
    have e : bd (trV m) (fun k => ret (U.bl (!k))) s = bd m (fun u => bd (ct u) fun u' => bd (tru u') fun k => ret (.bl (!k))) s := by
      unfold trV bd
      cases m s with
      | ok u s' =>
        dsimp only
        cases ct u s' with
        | ok => rfl
        | err => rfl
        | stuck => rfl
      | err => rfl
      | stuck => rfl
    rw [← e]; exact k
  refine k2.bd fun u s1 ρ1 H1 v _ x1 R1 r1 h1 => ?_
  obtain ⟨u', c1, h2⟩ := ct_con R1 r1 h1
  obtain ⟨b, hb, h3⟩ := tru_run c1 h2
  exact hb _ (h3.ret R1 .bl)
def andV (ma mb : M U) : M U := bd ma fun u => bd (tru u) fun k => bif k then mb else ret u
def orV (ma mb : M U) : M U := bd ma fun u => bd (tru u) fun k => bif k then ret u else mb
theorem pe_andR {r : V → Hp → (Bool → Hp → Prop) → Prop} {ta tb : TE} (ho : TruR X r) (ha : PE X a ta) (hb : PE X (.BoolOp .And (b :: rest) pos) tb) : PE X (.BoolOp .And (a :: b :: rest) pos) (fun σ H Q => ta σ H fun x H1 => r x H1 fun k H2 => if k = true then tb σ H2 Q else H2 = H1 ∧ Q x H1) := by
  refine ⟨fun pins s σ H Q I h => BoolOp_and (thn (ha.run pins s σ H _ I h) fun v s1 ⟨x, H1, I1, r1, q1⟩ => thn (ho pins s1 σ H1 x v _ I1 r1 q1) fun k s2 ⟨H2, I2, q2⟩ => ?_)⟩
  cases k with
  | true => exact hb.run pins s2 σ H2 Q I2 q2
  | false => obtain ⟨e, q2⟩ := q2; subst e; exact ⟨x, _, I2, r1, q2⟩
theorem pe_orR {r : V → Hp → (Bool → Hp → Prop) → Prop} {ta tb : TE} (ho : TruR X r) (ha : PE X a ta) (hb : PE X (.BoolOp .Or (b :: rest) pos) tb) : PE X (.BoolOp .Or (a :: b :: rest) pos) (fun σ H Q => ta σ H fun x H1 => r x H1 fun k H2 => if k = true then H2 = H1 ∧ Q x H1 else tb σ H2 Q) := by
  refine ⟨fun pins s σ H Q I h => BoolOp_or (thn (ha.run pins s σ H _ I h) fun v s1 ⟨x, H1, I1, r1, q1⟩ => thn (ho pins s1 σ H1 x v _ I1 r1 q1) fun k s2 ⟨H2, I2, q2⟩ => ?_)⟩
  cases k with
  | false => exact hb.run pins s2 σ H2 Q I2 q2
  | true => obtain ⟨e, q2⟩ := q2; subst e; exact ⟨x, _, I2, r1, q2⟩
theorem se_and (ha : SE X W a ma) (hb : SE X W (.BoolOp .And (b :: rest) pos) mb) : SE X W (.BoolOp .And (a :: b :: rest) pos) (andV ma mb) := by
  obtain ⟨ta, pa, ha⟩ := ha
  obtain ⟨tb, pb, hb⟩ := hb
  refine ⟨_, pe_andR (r := rTr X.K) tru_d pa pb, fun ρ s σ H Q R k => ?_⟩
  refine ha ρ s σ H _ R (k.bd fun u s1 ρ1 H1 v _ x1 R1 r1 h1 => ?_)
  obtain ⟨k, hk, h2⟩ := tru_run (.inl r1) h1
  refine hk _ ?_
  cases k with
  | true => rw [if_pos rfl]; exact hb ρ1 s1 σ H1 Q R1 h2
  | false => rw [if_neg Bool.false_ne_true]; exact ⟨rfl, h2.ret R1 r1⟩
theorem se_or (ha : SE X W a ma) (hb : SE X W (.BoolOp .Or (b :: rest) pos) mb) : SE X W (.BoolOp .Or (a :: b :: rest) pos) (orV ma mb) := by
  obtain ⟨ta, pa, ha⟩ := ha
  obtain ⟨tb, pb, hb⟩ := hb
  refine ⟨_, pe_orR (r := rTr X.K) tru_d pa pb, fun ρ s σ H Q R k => ?_⟩
  refine ha ρ s σ H _ R (k.bd fun u s1 ρ1 H1 v _ x1 R1 r1 h1 => ?_)
  obtain ⟨k, hk, h2⟩ := tru_run (.inl r1) h1
  refine hk _ ?_
  cases k with
  | false => rw [if_neg Bool.false_ne_true]; exact hb ρ1 s1 σ H1 Q R1 h2
  | true => rw [if_pos rfl]; exact ⟨rfl, h2.ret R1 r1⟩
theorem se_one {op : BoolOp} (h : SE X W a m) : SE X W (.BoolOp op [a] pos) m := by
  obtain ⟨t, p, h⟩ := h
  exact ⟨_, pe_one p, h⟩
def ifV (c : M Bool) (ma mb : M U) : M U := bd c fun k => bif k then ma else mb
theorem se_if (hc : ST X W c mt) (ha : SE X W a ma) (hb : SE X W b mb) : SE X W (.IfExp c a b pos) (ifV mt ma mb) := by
  obtain ⟨tc, pc, hc⟩ := hc
  obtain ⟨ta, pa, ha⟩ := ha
  obtain ⟨tb, pb, hb⟩ := hb
  refine ⟨_, pe_ifExp pc pa pb, fun ρ s σ H Q R k => ?_⟩
  refine hc ρ s σ H _ R (k.bd fun u s1 ρ1 H1 v _ x1 R1 r1 h1 => ?_)
  cases r1
  cases u with
  | true => rw [if_pos rfl]; exact ha ρ1 s1 σ H1 Q R1 h1
  | false => rw [if_neg Bool.false_ne_true]; exact hb ρ1 s1 σ H1 Q R1 h1
/-! tests -/
theorem STw.st (h : STw X W e mt) : ST X W e mt := by
  obtain ⟨t, p, h⟩ := h
  exact ⟨t, p.pt, h⟩
def andT (a b : M Bool) : M Bool := bd a fun k => bif k then b else ret false
def orT (a b : M Bool) : M Bool := bd a fun k => bif k then ret true else b
theorem st_and1 (h : ST X W a mt) : STw X W (.BoolOp .And [a] pos) mt := by
  obtain ⟨t, p, h⟩ := h
  exact ⟨_, pw_and1 p, h⟩
theorem st_or1 (h : ST X W a mt) : STw X W (.BoolOp .Or [a] pos) mt := by
  obtain ⟨t, p, h⟩ := h
  exact ⟨_, pw_or1 p, h⟩
theorem st_and (ha : ST X W a mt) (hb : STw X W (.BoolOp .And (b :: rest) pos) mt2) : STw X W (.BoolOp .And (a :: b :: rest) pos) (andT mt mt2) := by
  obtain ⟨ta, pa, ha⟩ := ha
  obtain ⟨tb, pb, hb⟩ := hb
  refine ⟨_, pw_and pa pb, fun ρ s σ H Q R k => ?_⟩
  refine ha ρ s σ H _ R (k.bd fun u s1 ρ1 H1 v _ x1 R1 r1 h1 => ?_)
  cases r1
  cases u with
  | true => rw [if_pos rfl]; exact hb ρ1 s1 σ H1 Q R1 h1
  | false => rw [if_neg Bool.false_ne_true]; exact h1.ret R1 rfl
theorem st_or (ha : ST X W a mt) (hb : STw X W (.BoolOp .Or (b :: rest) pos) mt2) : STw X W (.BoolOp .Or (a :: b :: rest) pos) (orT mt mt2) := by
  obtain ⟨ta, pa, ha⟩ := ha
  obtain ⟨tb, pb, hb⟩ := hb
  refine ⟨_, pw_or pa pb, fun ρ s σ H Q R k => ?_⟩
  refine ha ρ s σ H _ R (k.bd fun u s1 ρ1 H1 v _ x1 R1 r1 h1 => ?_)
  cases r1
  cases u with
  | false => rw [if_neg Bool.false_ne_true]; exact hb ρ1 s1 σ H1 Q R1 h1
  | true => rw [if_pos rfl]; exact h1.ret R1 rfl
theorem st_not (ha : ST X W a mt) : ST X W (.UnaryOp .Not a pos) (bd mt fun k => ret (!k)) := by
  obtain ⟨ta, pa, ha⟩ := ha
  refine ⟨_, pt_not pa, fun ρ s σ H Q R k => ?_⟩
  refine ha ρ s σ H _ R (k.bd fun u s1 ρ1 H1 v _ x1 R1 r1 h1 => ?_)
  cases r1
  exact h1.ret R1 rfl
end
end Mi

/-! Mini K: calls of built-ins, items, slices. -/
namespace Mi
open PySem PySem.Spec PyProof.Rows L2

/-! ### texts in order -/
theorem ltc_irr : ∀ a : List Nat, ltCps a a = false
  | [] => rfl
  | a :: r => by
    unfold ltCps
    rw [ltc_irr r]
    simp
theorem ltc_tri : ∀ {a b : List Nat}, ltCps a b = false → ltCps b a = false → a = b
  | [], [], _, _ => rfl
  | [], _ :: _, h, _ => by unfold ltCps at h; cases h
  | _ :: _, [], _, h => by unfold ltCps at h; cases h
  | a :: r, b :: t, h, k => by
    unfold ltCps at h k
    simp only [Bool.or_eq_false_iff, decide_eq_false_iff_not, Bool.and_eq_false_iff, beq_eq_false_iff_ne] at h k
    have e : a = b := by omega
    subst e
    rw [ltc_tri (h.2.resolve_left (fun z => z rfl)) (k.2.resolve_left (fun z => z rfl))]
theorem ltc_trans : ∀ {a b c : List Nat}, ltCps a b = true → ltCps b c = true → ltCps a c = true
  | [], [], _, h, _ => by unfold ltCps at h; cases h
  | [], _ :: _, [], _, k => by unfold ltCps at k; cases k
  | [], _ :: _, _ :: _, _, _ => by unfold ltCps; rfl
  | _ :: _, [], _, h, _ => by unfold ltCps at h; cases h
  | _ :: _, _ :: _, [], _, k => by unfold ltCps at k; cases k
  | a :: r, b :: t, c :: q, h, k => by
    unfold ltCps at h k ⊢
    simp only [Bool.or_eq_true, decide_eq_true_eq, Bool.and_eq_true, beq_iff_eq] at h k ⊢
    rcases h with h | ⟨h, h'⟩
    · rcases k with k | ⟨k, _⟩
      · exact .inl (by omega)
      · exact .inl (by omega)
    · rcases k with k | ⟨k, k'⟩
      · exact .inl (by omega)
      · exact .inr ⟨by omega, ltc_trans h' k'⟩
def leS (a b : Str) : Bool := !ltCps b.cps.toList a.cps.toList
theorem leS_total (a b : Str) : (leS a b || leS b a) = true := by
  unfold leS
  cases h : ltCps b.cps.toList a.cps.toList with
  | false => rfl
  | true =>
    cases k : ltCps a.cps.toList b.cps.toList with
    | false => rfl
    | true => have := ltc_trans h k; rw [ltc_irr] at this; cases this
theorem leS_anti {a b : Str} (h : leS a b = true) (k : leS b a = true) : a = b := by
  unfold leS at h k
  rw [Bool.not_eq_true'] at h k
  have e := ltc_tri k h
  obtain ⟨⟨x⟩⟩ := a
  obtain ⟨⟨y⟩⟩ := b
  have e : x = y := e
  rw [e]
theorem leS_trans (a b c : Str) (h : leS a b = true) (k : leS b c = true) : leS a c = true := by
  cases z : leS a c with
  | true => rfl
  | false =>
    unfold leS at h k z
    rw [Bool.not_eq_true'] at h k
    rw [Bool.not_eq_false'] at z
    cases y : ltCps a.cps.toList b.cps.toList with
    | true => rw [ltc_trans z y] at k; cases k
    | false =>
      rw [ltc_tri y h] at z
      rw [z] at k; cases k
theorem risingS_pw : ∀ {r : List Str} {p : Str}, risingS p r = true → (p :: r).Pairwise (fun a b => leS a b = true)
  | [], p, _ => List.pairwise_singleton ..
  | x :: r, p, h => by
    unfold risingS at h
    rw [Bool.and_eq_true] at h
    have ih := risingS_pw h.2
    refine List.pairwise_cons.mpr ⟨fun y hy => ?_, ih⟩
    rcases List.mem_cons.mp hy with e | hy
    · rw [e]; exact h.1
    · exact leS_trans p x y h.1 ((List.pairwise_cons.mp ih).1 y hy)
theorem sortedS_pw {r : List Str} (h : sortedS r = true) : r.Pairwise (fun a b => leS a b = true) := by
  cases r with
  | nil => exact .nil
  | cons x r => exact risingS_pw h
def srt (ks : List Str) : List Str := ks.mergeSort leS
theorem srt_pw (ks : List Str) : (srt ks).Pairwise (fun a b => leS a b = true) := List.pairwise_mergeSort leS_trans leS_total ks
theorem srt_perm (ks : List Str) : (srt ks).Perm ks := List.mergeSort_perm ks leS
theorem srt_of {ys ks : List Str} (p : ys.Perm ks) (s : ys.Pairwise (fun a b => leS a b = true)) : ys = srt ks :=
  List.Perm.eq_of_pairwise (fun a b _ _ h k => leS_anti h k) s (srt_pw ks) (p.trans (srt_perm ks).symm)
def leZ (a b : Int) : Bool := decide (a ≤ b)
def srtI (ks : List Int) : List Int := ks.mergeSort leZ
theorem srtI_pw (ks : List Int) : (srtI ks).Pairwise (fun a b => leZ a b = true) := List.pairwise_mergeSort (fun a b c h k => by unfold leZ at *; simp only [decide_eq_true_eq] at *; omega) (fun a b => by unfold leZ; simp only [Bool.or_eq_true, decide_eq_true_eq]; omega) ks
theorem srtI_of {ys ks : List Int} (p : ys.Perm ks) (s : ys.Pairwise (· ≤ ·)) : ys = srtI ks :=
  List.Perm.eq_of_pairwise (le := fun a b => leZ a b = true) (fun a b _ _ h k => by unfold leZ at *; simp only [decide_eq_true_eq] at *; omega) (s.imp fun h => decide_eq_true h) (srtI_pw ks) (p.trans (List.mergeSort_perm ks leZ).symm)

/-! ### calls -/
def rCAN (X : Cx) (W : WX) (g : List U → M U) : List V → Hp → VK → Prop := fun vs H Q => ∃ ρ s σ us, Rl (gx X) ρ s σ H ∧ Paired (Con (gx X) ρ H) us vs ∧ OkN X W ρ σ H (g us s) Q
section
variable {X : Cx} {W : WX} {e a b c o : Expr} {es rest : List Expr} {m ma mb mc : M U} {ms : M (List U)} {mt mt2 : M Bool} {pos : Pos}
theorem callN_run {g : List U → M U} {t : TA} (h : ∀ ρ s σ H Q, Rl (gx X) ρ s σ H → Ok X W (fun ρ' H' us vs => Paired (fun u v => RepE (gx X) ρ' σ H' u v) us vs) ρ σ H (ms s) Q → t σ H Q)
    {ρ : Rho} {s : MS} {σ : L2.St} {H : Hp} {Q : VK} (R : Rl (gx X) ρ s σ H) (k : OkN X W ρ σ H (callB g ms s) Q) : tCB (rCAN X W g) t σ H Q := by
  refine h ρ s σ H _ R (k.bd fun us s1 ρ1 H1 vs _ x1 R1 r1 h1 => ?_)
  have key : ∀ {us : List U} {vs : List V} {f : List U → M U}, Paired (fun u v => RepE (gx X) ρ1 σ H1 u v) us vs → OkN X W ρ1 σ H1 (bd (cts us) f s1) Q → ∃ us', Paired (Con (gx X) ρ1 H1) us' vs ∧ OkN X W ρ1 σ H1 (f us' s1) Q := by
    intro us
    induction us with
    | nil => intro vs f p k; cases p; exact ⟨[], .nil, k⟩
    | cons u us ih =>
      intro vs f p k
      cases p with
      | cons p1 p2 =>
        have e : bd (cts (u :: us)) f s1 = bd (ct u) (fun u' => bd (cts us) fun us' => f (u' :: us')) s1 := by
          show bd (mcons (ct u) (cts us)) f s1 = _
          unfold mcons bd ret
          cases ct u s1 with
          | ok u' s' =>
            dsimp only
            cases cts us s' <;> rfl
          | err => rfl
          | stuck => rfl
        rw [e] at k
        cases q : cont s1 u with
        | none =>
          have e2 : bd (ct u) (fun u' => bd (cts us) fun us' => f (u' :: us')) s1 = .stuck := by unfold bd ct; rw [q]
          rw [e2] at k; exact k.elim
        | some u' =>
          have e2 : bd (ct u) (fun u' => bd (cts us) fun us' => f (u' :: us')) s1 = bd (cts us) (fun us' => f (u' :: us')) s1 := by unfold bd ct; rw [q]
          rw [e2] at k
          obtain ⟨us', c2, k2⟩ := ih p2 k
          exact ⟨u' :: us', .cons (cont_ok R1 p1 q) c2, k2⟩
  obtain ⟨us', c2, k2⟩ := key r1 h1
  exact ⟨ρ1, s1, σ, us', R1, c2, k2⟩
theorem sen_callB {x : Str} {p : Pos} {id : String} {g : List U → M U} (hc : CallR X (.builtin id) (rCAN X W g)) (hgl : Gl X x) (hm : X.mg x = none) (hv : bootBuiltins x = some (.builtin id)) (h : SA0 X W (e :: es) ms)
    (hn : x ≠ "__name__" := by decide) (hdb : (x == ("__debug__" : Str)) = false := by decide)
    (he : starEach (e :: es) X.env = (false, eval e X.env) :: starEach es X.env := by rfl) (hpl : (backTo pos (starEach es X.env)).any (·.1) = false := by rfl) : SEN X W (.Call (.Name x p) (e :: es) [] pos) (callB g ms) := by
  obtain ⟨t, pa, h⟩ := h
  exact ⟨_, pe_callB hc hgl hm hv pa hn hdb he hpl, fun ρ s σ H Q R k => callN_run h R k⟩
theorem sen_callTy {x : Str} {p : Pos} {T : String} {g : List U → M U} (hc : CallR X (.type T) (rCAN X W g)) (hgl : Gl X x) (hm : X.mg x = none) (hv : bootBuiltins x = some (.type T)) (h : SA0 X W (e :: es) ms)
    (hn : x ≠ "__name__" := by decide) (hdb : (x == ("__debug__" : Str)) = false := by decide)
    (he : starEach (e :: es) X.env = (false, eval e X.env) :: starEach es X.env := by rfl) (hpl : (backTo pos (starEach es X.env)).any (·.1) = false := by rfl) : SEN X W (.Call (.Name x p) (e :: es) [] pos) (callB g ms) := by
  obtain ⟨t, pa, h⟩ := h
  exact ⟨_, pe_callTy hc hgl hm hv pa hn hdb he hpl, fun ρ s σ H Q R k => callN_run h R k⟩

def lenU : List U → M U
  | [.str x] => when (decide (x.length ≤ sizeLine)) (ret (.int (x.length : Nat)))
  | [.lst us] => ret (.int (us.length : Nat))
  | [.kl us] => ret (.int (us.length : Nat))
  | [.tup us] => ret (.int (us.length : Nat))
  | [.dK us] => ret (.int (us.length : Nat))
  | _ => stk
theorem cb_len : CallR X (.builtin "len") (rCA X W lenU) := by
  intro pins s σ H xs us Q I r ⟨ρ, s', σ', ws, R, c, h⟩
  unfold lenU at h
  split at h
  · cases c with
    | cons c1 c2 =>
      cases c2; cases c1.str
      obtain ⟨e, h⟩ := h.when
      exact call_len pins s σ H _ us Q I r ⟨_, _, rfl, ⟨of_decide_eq_true e, rfl⟩, h.ret R .int⟩
  · cases c with
    | cons c1 c2 =>
      cases c2
      obtain ⟨p, vs, rfl, q, rr⟩ := c1.lst
      exact call_len pins s σ H _ us Q I r ⟨_, _, rfl, .inl ⟨vs, .of q, rfl⟩, by rw [← rr.length]; exact h.ret R .int⟩
  · cases c with
    | cons c1 c2 =>
      cases c2
      obtain ⟨p, vs, rfl, q, rr⟩ := c1.kl
      exact call_len pins s σ H _ us Q I r ⟨_, _, rfl, .inl ⟨vs, q, rfl⟩, by rw [← rr.length]; exact h.ret R .int⟩
  · cases c with
    | cons c1 c2 =>
      cases c2
      obtain ⟨p, vs, rfl, q, rr⟩ := c1.tup
      exact call_len pins s σ H _ us Q I r ⟨_, _, rfl, .inr ⟨vs, q, rfl⟩, by rw [← rr.length]; exact h.ret R .int⟩
  · cases c with
    | cons c1 c2 =>
      cases c2
      obtain ⟨p, vs, rfl, q, rr⟩ := c1.dK
      obtain ⟨u1, eu, rx⟩ := vals1 r
      subst eu
      cases rx
      exact d_len I q fun t s1 I1 => ⟨.int _, H, I1, ⟨_, rfl⟩, by rw [← rr.length]; exact h.ret R .int⟩
  · exact h.elim
def absU : List U → M U
  | [.int i] => ret (.int (if i < 0 then -i else i))
  | _ => stk
theorem cb_abs : CallR X (.builtin "abs") (rCA X W absU) := by
  intro pins s σ H xs us Q I r ⟨ρ, s', σ', ws, R, c, h⟩
  unfold absU at h
  split at h
  · cases c with
    | cons c1 c2 =>
      cases c2; cases c1.int
      exact call_abs pins s σ H _ us Q I r ⟨_, rfl, h.ret R .int⟩
  · exact h.elim
def intU : List U → M U
  | [.int i] => ret (.int i)
  | [.bl k] => ret (.int (if k then 1 else 0))
  | [.str a] => (match intText? a with
    | some n => when (decide (a.length ≤ 640)) (ret (.int n))
    | none => stk)
  | _ => stk
theorem cb_int : CallR X (.type "int") (rCA X W intU) := by
  intro pins s σ H xs us Q I r ⟨ρ, s', σ', ws, R, c, h⟩
  unfold intU at h
  split at h
  · cases c with
    | cons c1 c2 =>
      cases c2; cases c1.int
      exact call_int1 pins s σ H _ us Q I r (.inl ⟨_, rfl, h.ret R .int⟩)
  · cases c with
    | cons c1 c2 =>
      cases c2; cases c1.bl
      exact call_int1 pins s σ H _ us Q I r (.inr ⟨_, rfl, h.ret R .int⟩)
  · rename_i a
    cases c with
    | cons c1 c2 =>
      cases c2; cases c1.str
      cases e : intText? a with
      | none => rw [e] at h; exact h.elim
      | some n =>
        rw [e] at h
        obtain ⟨hl, h⟩ := h.when
        exact call_int_str pins s σ H _ us Q I r ⟨_, _, rfl, e, of_decide_eq_true hl, h.ret R .int⟩
  · exact h.elim
def strU : List U → M U
  | [.int i] => when (decide (i.natAbs.log2 < 1920)) (ret (.str (toString i)))
  | [.str x] => ret (.str x)
  | _ => stk
theorem cb_str : CallR X (.type "str") (rCA X W strU) := by
  intro pins s σ H xs us Q I r ⟨ρ, s', σ', ws, R, c, h⟩
  unfold strU at h
  split at h
  · cases c with
    | cons c1 c2 =>
      cases c2; cases c1.int
      obtain ⟨e, h⟩ := h.when
      exact call_str_int pins s σ H _ us Q I r ⟨_, rfl, of_decide_eq_true e, h.ret R .str⟩
  · cases c with
    | cons c1 c2 =>
      cases c2; cases c1.str
      exact SkE.call_str_str pins s σ H _ us Q I r ⟨_, rfl, h.ret R .str⟩
  · exact h.elim
def boolsU : List U → Option (List Bool)
  | [] => some []
  | .bl b :: us => (boolsU us).map (b :: ·)
  | _ :: _ => none
theorem boolsU_ok {G : Gx} {ρ : Rho} {H : Hp} : ∀ {us : List U} {vs : List V} {bs : List Bool}, Reps G ρ H us vs → boolsU us = some bs → vs = bs.map V.bl
  | _, _, _, .nil, e => by cases e; rfl
  | .bl b :: us, _, _, .cons h r, e => by
    obtain ⟨bs, e1, rfl⟩ := Option.map_eq_some_iff.mp (show (boolsU us).map (b :: ·) = some _ from e)
    cases h
    rw [boolsU_ok r e1, List.map_cons]
def allU : List U → M U
  | [.lst us] => fun s => match boolsU us with
    | some bs => .ok (.bl (bs.all id)) s
    | none => .stuck
  | _ => stk
theorem cb_all (hc : X.calm = true) : CallR X (.builtin "all") (rCA X W allU) := by
  intro pins s σ H xs us Q I r ⟨ρ, s', σ', ws, R, c, h⟩
  unfold allU at h
  split at h
  · rename_i us0
    cases c with
    | cons c1 c2 =>
      cases c2
      obtain ⟨p, vs, rfl, q, rr⟩ := c1.lst
      cases e : boolsU us0 with
      | none => simp only [e] at h; exact h.elim
      | some bs =>
        simp only [e] at h
        exact cr_all hc pins s σ H _ us Q I r ⟨_, bs, rfl, by rw [← boolsU_ok rr e]; exact .of q, h ρ H _ Ext.refl R .bl⟩
  · exact h.elim
def anyU : List U → M U
  | [.lst us] => fun s => match boolsU us with
    | some bs => .ok (.bl (bs.any id)) s
    | none => .stuck
  | _ => stk
theorem cb_any (hc : X.calm = true) : CallR X (.builtin "any") (rCA X W anyU) := by
  intro pins s σ H xs us Q I r ⟨ρ, s', σ', ws, R, c, h⟩
  unfold anyU at h
  split at h
  · rename_i us0
    cases c with
    | cons c1 c2 =>
      cases c2
      obtain ⟨p, vs, rfl, q, rr⟩ := c1.lst
      cases e : boolsU us0 with
      | none => simp only [e] at h; exact h.elim
      | some bs =>
        simp only [e] at h
        exact cr_any hc pins s σ H _ us Q I r ⟨_, bs, rfl, by rw [← boolsU_ok rr e]; exact .of q, h ρ H _ Ext.refl R .bl⟩
  · exact h.elim
/-- list(x) -/
def listU : List U → M U
  | [.lst us] => ret (.lst us)
  | [.kl us] => ret (.lst us)
  | [.tup us] => ret (.lst us)
  | [.dK kvs] => ret (.lst (kvs.map fun q => kU q.1))
  | _ => stk
theorem keys_rep {G : Gx} {ρ : Rho} {H : Hp} {us : List (Key × U)} {vs : List (Key × V)} (r : RepD G ρ H us vs) : Reps G ρ H (us.map fun q => kU q.1) (vs.map fun q => kV q.1) := by
  have e : (us.map (·.1)).map kU = us.map fun q => kU q.1 := by rw [List.map_map]; rfl
  have e2 : (vs.map (·.1)).map kV = vs.map fun q => kV q.1 := by rw [List.map_map]; rfl
  rw [← e, ← e2, r.keys]
  exact kUs_rep _
theorem cn_list (hc : X.calm = true) : CallR X (.type "list") (rCAN X W listU) := by
  intro pins s σ H xs us Q I r ⟨ρ, s', σ', ws, R, c, h⟩
  unfold listU at h
  split at h
  · cases c with
    | cons c1 c2 =>
      cases c2
      obtain ⟨p, vs, rfl, q, rr⟩ := c1.lst
      exact call_list_of pins s σ H _ us Q I r ⟨_, vs, rfl, .inl (.of q), fun z hz => h.lay R hz fun U e => ⟨vs, e, rr.up U⟩⟩
  · cases c with
    | cons c1 c2 =>
      cases c2
      obtain ⟨p, vs, rfl, q, rr⟩ := c1.kl
      exact call_list_of pins s σ H _ us Q I r ⟨_, vs, rfl, .inl q, fun z hz => h.lay R hz fun U e => ⟨vs, e, rr.up U⟩⟩
  · cases c with
    | cons c1 c2 =>
      cases c2
      obtain ⟨p, vs, rfl, q, rr⟩ := c1.tup
      exact call_list_of pins s σ H _ us Q I r ⟨_, vs, rfl, .inr q, fun z hz => h.lay R hz fun U e => ⟨vs, e, rr.up U⟩⟩
  · cases c with
    | cons c1 c2 =>
      cases c2
      obtain ⟨p, vs, rfl, q, rr⟩ := c1.dK
      exact call_listD hc pins s σ H _ us Q I r ⟨_, vs, rfl, q, fun z hz => h.lay R hz fun U e => ⟨_, e, (keys_rep rr).up U⟩⟩
  · exact h.elim
/-- dict(d) -/
def dictU : List U → M U
  | [.dK kvs] => ret (.dK kvs)
  | _ => stk
theorem cn_dict : CallR X (.type "dict") (rCAN X W dictU) := by
  intro pins s σ H xs us Q I r ⟨ρ, s', σ', ws, R, c, h⟩
  unfold dictU at h
  split at h
  · cases c with
    | cons c1 c2 =>
      cases c2
      obtain ⟨p, vs, rfl, q, rr⟩ := c1.dK
      exact call_dictD pins s σ H _ us Q I r ⟨_, vs, rfl, q, fun z hz => h.lay R hz fun U e => ⟨vs, e, rr.up U⟩⟩
  · exact h.elim
/-- sorted(x): texts, ints, a dict's keys -/
def strsU : List U → Option (List Str)
  | [] => some []
  | .str b :: us => (strsU us).map (b :: ·)
  | _ :: _ => none
def intsU : List U → Option (List Int)
  | [] => some []
  | .int b :: us => (intsU us).map (b :: ·)
  | _ :: _ => none
theorem strsU_ok {G : Gx} {ρ : Rho} {H : Hp} : ∀ {us : List U} {vs : List V} {bs : List Str}, Reps G ρ H us vs → strsU us = some bs → vs = bs.map V.str
  | _, _, _, .nil, e => by cases e; rfl
  | .str b :: us, _, _, .cons h r, e => by
    obtain ⟨bs, e1, rfl⟩ := Option.map_eq_some_iff.mp (show (strsU us).map (b :: ·) = some _ from e)
    cases h
    rw [strsU_ok r e1, List.map_cons]
theorem intsU_ok {G : Gx} {ρ : Rho} {H : Hp} : ∀ {us : List U} {vs : List V} {bs : List Int}, Reps G ρ H us vs → intsU us = some bs → vs = bs.map V.int
  | _, _, _, .nil, e => by cases e; rfl
  | .int b :: us, _, _, .cons h r, e => by
    obtain ⟨bs, e1, rfl⟩ := Option.map_eq_some_iff.mp (show (intsU us).map (b :: ·) = some _ from e)
    cases h
    rw [intsU_ok r e1, List.map_cons]
theorem strs_rep {G : Gx} {ρ : Rho} {H : Hp} : ∀ bs : List Str, Reps G ρ H (bs.map U.str) (bs.map V.str)
  | [] => .nil
  | b :: bs => .cons .str (strs_rep bs)
theorem ints_rep {G : Gx} {ρ : Rho} {H : Hp} : ∀ bs : List Int, Reps G ρ H (bs.map U.int) (bs.map V.int)
  | [] => .nil
  | b :: bs => .cons .int (ints_rep bs)
def keyS : List (Key × U) → Option (List Str)
  | [] => some []
  | (.inr x, _) :: us => (keyS us).map (x :: ·)
  | _ :: _ => none
theorem keyS_ok : ∀ {us : List (Key × U)} {bs : List Str}, keyS us = some bs → us.map (·.1) = bs.map Sum.inr
  | [], _, e => by cases e; rfl
  | (.inr x, _) :: us, _, e => by
    obtain ⟨bs, e1, rfl⟩ := Option.map_eq_some_iff.mp (show (keyS us).map (x :: ·) = some _ from e)
    rw [List.map_cons, List.map_cons, keyS_ok e1]
def sortedU : List U → M U
  | [.lst us] => fun s => match strsU us with
    | some bs => when (decide (bs.length < 64)) (ret (.lst ((srt bs).map .str))) s
    | none => (match intsU us with
      | some bs => when (decide (bs.length < 64)) (ret (.lst ((srtI bs).map .int))) s
      | none => .stuck)
  | [.dK kvs] => fun s => match keyS kvs with
    | some bs => when (decide (bs.length < 64)) (ret (.lst ((srt bs).map .str))) s
    | none => .stuck
  | _ => stk
theorem cn_sorted (hc : X.calm = true) : CallR X (.builtin "sorted") (rCAN X W sortedU) := by
  intro pins s σ H xs us Q I r ⟨ρ, s', σ', ws, R, c, h⟩
  unfold sortedU at h
  split at h
  · rename_i us0
    cases c with
    | cons c1 c2 =>
      cases c2
      obtain ⟨p, vs, rfl, q, rr⟩ := c1.lst
      cases e : strsU us0 with
      | some bs =>
        simp only [e] at h
        obtain ⟨l, h⟩ := h.when
        exact cr_sortedS pins s σ H _ us Q I r ⟨_, bs, rfl, by rw [← strsU_ok rr e]; exact .of q, of_decide_eq_true l, fun ys z hp hs hz => by
          rw [srt_of hp (sortedS_pw hs)]
          exact h.lay R hz fun U e => ⟨_, e, strs_rep _⟩⟩
      | none =>
        simp only [e] at h
        cases e2 : intsU us0 with
        | none => simp only [e2] at h; exact h.elim
        | some bs =>
          simp only [e2] at h
          obtain ⟨l, h⟩ := h.when
          exact cr_sorted pins s σ H _ us Q I r ⟨_, bs, rfl, by rw [← intsU_ok rr e2]; exact .of q, of_decide_eq_true l, fun ys z hp hs hz => by
            rw [srtI_of hp hs]
            exact h.lay R hz fun U e => ⟨_, e, ints_rep _⟩⟩
  · rename_i us0
    cases c with
    | cons c1 c2 =>
      cases c2
      obtain ⟨p, vs, rfl, q, rr⟩ := c1.dK
      cases e : keyS us0 with
      | none => simp only [e] at h; exact h.elim
      | some bs =>
        simp only [e] at h
        obtain ⟨l, h⟩ := h.when
        exact call_sortedD hc pins s σ H _ us Q I r ⟨_, vs, bs, rfl, q, by rw [← rr.keys]; exact keyS_ok e, of_decide_eq_true l, fun ys z hp hs hz => by
          rw [srt_of hp (sortedS_pw hs)]
          exact h.lay R hz fun U e => ⟨_, e, strs_rep _⟩⟩
  · exact h.elim
end
end Mi

/-! Mini L: calls of defs in any form; instances. -/
namespace Mi
open PySem PySem.Spec PyProof.Rows L2

/-- the promise of a def by its mirror, any number of arguments -/
def spR (G : Gx) (g : F) : Sp := fun vs H Q E => ∃ ρ st us, Rl G ρ ⟨[], st⟩ [] H ∧ Reps G ρ H us vs ∧ OkF G ρ H (g us st) Q E
abbrev FnU (P : Program) (w : World) (G : Gx) (base : Heap) (k : Nat) (f : Addr) (g : F) : Prop := FnR P w G.K G.mg base (L2.CX P w) k f (spR G g)
/-- n arguments are written, du fill up -/
def arF (n : Nat) (du : List U) (m : F) : F := fun us st => if us.length = n then m (us ++ du) st else .stuck
theorem FnM.u {P : Program} {w : World} {G : Gx} {base : Heap} {k : Nat} {f : Addr} {fd : FuncData} {ps : List Str} {m : F} {ds : List Value} {dvs : List V} {du : List U} (n : Nat) (Fn : FnM P w G base k f fd ps m) (hb : Binds G.K fd ps ds) (hd : Vals dvs ds)
    (hu : ∀ ρ H, Reps G ρ H du dvs) (hl : n + du.length = ps.length) : FnU P w G base k f (arF n du m) := by
  refine FnR.imp (FnOk.raw Fn hb hd) fun vs H Q E h => ?_
  obtain ⟨ρ, st, us, R, r, h⟩ := h
  unfold arF at h
  by_cases e : us.length = n
  · rw [if_pos e] at h
    have r2 := r.app (hu ρ H)
    exact ⟨by rw [← r2.length, List.length_append, e, hl], ρ, st, _, R, r2, h⟩
  · rw [if_neg e] at h; exact h.elim
theorem FnM.u0 {P : Program} {w : World} {G : Gx} {base : Heap} {k : Nat} {f : Addr} {fd : FuncData} {ps : List Str} {m : F} (n : Nat) (Fn : FnM P w G base k f fd ps m) (hb : Binds G.K fd ps []) (hl : n = ps.length) : FnU P w G base k f (arF n [] m) :=
  FnM.u n Fn hb .nil (fun _ _ => .nil) hl
/-- def f(a, .., *v) -/
def starF (n : Nat) (m : F) : F := fun us st => if n ≤ us.length ∧ us.length ≤ sizeLine then m (us.take n ++ [.tup (us.drop n)]) st else .stuck
theorem OkF.ext {G : Gx} {ρ ρ' : Rho} {H H' : Hp} {r : Res (List U) U} {Q : VK} {E : XK} (h : OkF G ρ H r Q E) (x : Ext G ρ H ρ' H') : OkF G ρ' H' r Q E := by
  cases r with
  | ok u s2 => exact fun ρ2 H2 v x2 R2 r2 => h ρ2 H2 v (x.trans x2) R2 r2
  | err y s2 => exact fun ρ2 H2 c2 d2 x2 R2 r2 => h ρ2 H2 c2 d2 (x.trans x2) R2 r2
  | stuck => exact h
theorem FnStar {P : Program} {w : World} {G : Gx} {base : Heap} {x qual : Str} {params : Arguments} {body : List Stmt} {scope : Scope} {kws : List (Str × V)} {f : Addr} {fd : FuncData} {N ps : List Str} {pv : Str} {k : Nat} {m : Sm}
    (Fd : FunD G.K x qual params body scope [] kws f fd) (S : FnScope N (ps ++ [pv]) scope)
    (hbd : ∀ (kV doc pm : Value) (an : Option Addr) (cdv ct : Value) (us rest : List Value), us.length = ps.length → bindArgs (PySem.W.fnOf x qual params body scope .none kV doc pm an cdv ct) ⟨us ++ rest, []⟩ = (newTuple rest >>= fun t => pure (ps.zip us ++ [(pv, t)])))
    (hb : ∀ (cdv : Value) (A : Around) (outer : List Env) (s : Shared) (H : Hp) (E : XK), Room k (A.deeper (envOfC qual scope s.heap.objs.size f cdv)) →
      SSs (cxOf (L2.CX P w) P w G.K G.mg base N qual scope f cdv A outer s H E) (fun cls d _ H => E cls d H) body m) : FnU P w G base (k + 1) f (starF ps.length (mkF N.length m)) := by
  obtain ⟨oc, od, dV, kV, doc, pm, an, cdv, ct, osl, rfl, lk, hcd, hD, hK⟩ := Fd.ex
  have hdv : dV = .none := by
    rcases hD with ⟨_, e⟩ | ⟨e, _⟩
    · exact e
    · exact absurd rfl e
  subst hdv
  refine FnR.imp (StX.fn_star (sp := spF G (ps.length + 1) (mkF N.length m)) lk hcd S StX.cxUp (hbd kV doc pm an cdv ct) fun A outer s H vs Q E hr h => ?_) fun vs H Q E h => ?_
  · obtain ⟨t, p, q⟩ := hb cdv A outer s H E hr
    refine ⟨t, p, ?_⟩
    obtain ⟨hl, ρ, st, us, R, r, h⟩ := h
    refine q ρ _ _ H _ (rl_start (N := N) R r) ?_
    unfold mkF at h
    cases z : m ⟨us.map Sl.val ++ List.replicate (N.length - us.length) Sl.no, st⟩ with
    | ok fl s' =>
      rw [z] at h
      cases fl with
      | nx =>
        intro ρ' σ' H' x R'
        obtain ⟨R2, x2⟩ := rl_end (ρ' := ρ') (H' := H') R'
        exact h _ H' .non (x.trans x2) R2 .non
      | rt u =>
        intro ρ' σ' H' v x R' r'
        obtain ⟨R2, x2⟩ := rl_end (ρ' := ρ') (H' := H') R'
        exact h _ H' v (x.trans x2) R2 (r'.up x2.toUp)
      | bk => exact h.elim
      | ct => exact h.elim
    | err y s' =>
      rw [z] at h
      intro ρ' σ' H' cls d x R' r'
      obtain ⟨R2, x2⟩ := rl_end (ρ' := ρ') (H' := H') R'
      exact h _ H' cls d (x.trans x2) R2 (r'.up x2.toUp fun _ _ _ e => e)
    | stuck => rw [z] at h; exact h.elim
  · obtain ⟨ρ, st, us, R, r, h⟩ := h
    unfold starF at h
    by_cases e : ps.length ≤ us.length ∧ us.length ≤ sizeLine
    · rw [if_pos e] at h
      have l := r.length
      refine ⟨vs.take ps.length, vs.drop ps.length, (List.take_append_drop _ _).symm, by rw [List.length_take]; omega, by rw [List.length_drop]; omega, fun p hp => ?_⟩
      have x := R.laidExt (o := .tup (vs.drop ps.length)) hp
      have rt : Rep G ρ (upd H p (.tup (vs.drop ps.length))) (.tup (us.drop ps.length)) (.ref p) := .tup (.of upd_same (R.fresh hp)) ((r.drop _).up x.toUp)
      have r2 : Reps G ρ (upd H p (.tup (vs.drop ps.length))) (us.take ps.length ++ [.tup (us.drop ps.length)]) (vs.take ps.length ++ [.ref p]) := ((r.take _).up x.toUp).app (.cons rt .nil)
      exact ⟨by rw [← r2.length, List.length_append, List.length_take]; simp; omega, ρ, st, _, R.laid hp, r2, OkF.ext h x⟩
    · rw [if_neg e] at h; exact h.elim

section
variable {X : Cx} {W : WX} {e a b c o : Expr} {es rest : List Expr} {m ma mb mc : M U} {ms : M (List U)} {mt mt2 : M Bool} {pos : Pos}
theorem callU_run {g : F} {ρ : Rho} {s : MS} {σ : L2.St} {H : Hp} {us : List U} {vs : List V} {Q : VK} (R : Rl (gx X) ρ s σ H) (r : Reps (gx X) ρ H us vs) (h : OkV X W ρ σ H (callF g us s) Q) :
    spR (gx X) g vs H Q (WE W σ) := by
  refine ⟨ρ.callee, s.st, us, R.callee, r.up (callee_up R), ?_⟩
  unfold callF at h
  cases q : g us s.st with
  | ok u st =>
    rw [q] at h
    intro ρ' H' v x R' r'
    obtain ⟨x2, R2⟩ := R.back x R'
    exact h _ H' v x2 R2 (r'.up (back_up x R'))
  | err y st =>
    rw [q] at h
    intro ρ' H' cls d x R' r'
    obtain ⟨x2, R2⟩ := R.back x R'
    exact h _ H' cls d x2 R2 (r'.up (back_up x R') fun _ _ _ e => e)
  | stuck => rw [q] at h; exact h.elim
/-- the call itself, anywhere around -/
theorem runU {k : Nat} {f : Addr} {g : F} {A : Around} {pins : List (Addr × Obj)} {σ : L2.St} {H : Hp} {s : Shared} {Q : VK} {us : List Value} {vs : List V} (Fn : FnU X.prog X.w (gx X) X.base k f g) (tk : Takes X W) (hr : Room k A) (e0 : Env0 X.prog X.w X.K X.mg X.base A X.stack s H)
    (I : Inv X pins σ H s) (r : Vals vs us) (h : spR (gx X) g vs H Q (WE W σ)) : wpAny (model X.prog X.w) A (call (.ref f) us) (EP X pins σ Q) X.xe s := by
  refine wpAny_call (codeAny_mono (Fn A X.stack s H us vs Q (WE W σ) hr e0 r h) fun r s' hq => ?_)
  cases r with
  | error e => exact passAt tk σ pins H s e s' I hq
  | ok fl =>
    cases fl with
    | ret u => exact I.after hq
    | next => exact False.elim hq
    | brk => exact False.elim hq
    | cont => exact False.elim hq
theorem se_callU {x : Str} {p : Pos} {k : Nat} {f : Addr} {g : F} (Fn : FnU X.prog X.w (gx X) X.base k f g) (tk : Takes X W) (hr : Room k X.A) (hg : Gl X x) (hm : X.mg x = some (.ref f)) (hk : PySem.W.keepIn X.K (.ref f) = true) (ha : SA X W (e :: es) ms)
    (hdb : (x == ("__debug__" : Str)) = false := by decide) (he : starEach (e :: es) X.env = (false, eval e X.env) :: starEach es X.env := by rfl) (hpl : (backTo pos (starEach es X.env)).any (·.1) = false := by rfl) :
    SE X W (.Call (.Name x p) (e :: es) [] pos) (bd ms (callF g)) := by
  obtain ⟨⟨t, pa, h⟩, _⟩ := ha
  refine ⟨fun σ H Q => t σ H fun vs H1 => spR (gx X) g vs H1 Q (WE W σ), ⟨fun pins s σ H Q I k => ?_⟩, fun ρ s σ H Q R k => ?_⟩
  · refine wpAny_Call_Name_kw (ld_glob I hg hm ?_ hdb)
    refine PySem.W.callWith_K (h₀ := X.base) I.ok.mod.kin hk (thn (pa.run pos pins s σ H _ I k) fun us s1 ⟨vs, H1, I1, r, q⟩ => ⟨I1.kIn, ?_⟩) he hpl
    exact runU Fn tk hr I1.env0 I1 r q
  · exact h ρ s σ H _ R (k.bd fun us s1 ρ1 H1 vs _ x1 R1 r1 h1 => callU_run R1 r1 h1)
theorem se_callU0 {x : Str} {p : Pos} {k : Nat} {f : Addr} {g : F} (Fn : FnU X.prog X.w (gx X) X.base k f g) (tk : Takes X W) (hr : Room k X.A) (hg : Gl X x) (hm : X.mg x = some (.ref f)) (hk : PySem.W.keepIn X.K (.ref f) = true)
    (hdb : (x == ("__debug__" : Str)) = false := by decide) : SE X W (.Call (.Name x p) [] [] pos) (callF g []) := by
  refine ⟨fun σ H Q => spR (gx X) g [] H Q (WE W σ), ⟨fun pins s σ H Q I k => ?_⟩, fun ρ s σ H Q R k => callU_run R .nil k⟩
  refine wpAny_Call_Name_kw (ld_glob I hg hm ?_ hdb)
  exact PySem.W.callWith_K0 I.kIn hk (runU (us := []) Fn tk hr I.env0 I .nil k)

/-! ### keywords -/
def SK (X : Cx) (W : WX) (kws : List Keyword) (m : M (List U)) : Prop :=
  ∃ t, PK X kws t ∧ ∀ ρ s σ H Q, Rl (gx X) ρ s σ H → OkA X W ρ σ H (m s) Q → t σ H Q
theorem sk_nil : SK X W [] (ret []) := ⟨_, pk_nil, fun ρ s σ H Q R h => h.ret R .nil⟩
theorem sk_cons {nm : Option Str} {kpos : Pos} {kws : List Keyword} (ha : SE X W e m) (hr : SK X W kws ms) : SK X W (⟨nm, e, kpos⟩ :: kws) (mcons m ms) := by
  obtain ⟨ta, pa, ha⟩ := ha
  obtain ⟨tr, pr, hr⟩ := hr
  refine ⟨_, pk_cons pa pr, fun ρ s σ H Q R h => ?_⟩
  refine ha ρ s σ H _ R (h.bd fun u s1 ρ1 H1 v _ x1 R1 r1 h1 => ?_)
  refine hr ρ1 s1 σ H1 _ R1 (h1.bd fun us s2 ρ2 H2 vs _ x2 R2 r2 h2 => ?_)
  exact h2.ret R2 (.cons (r1.up x2.toUp) r2)
/-- called with n positional values and the keywords ks -/
def FnK (P : Program) (w : World) (G : Gx) (base : Heap) (k : Nat) (f : Addr) (n : Nat) (ks : List Str) (g : F) : Prop :=
  ∀ (A : Around) (outer : List Env) (s : Shared) (H : Hp) (us ws : List Value) (vs zs : List V) (Q : VK) (E : XK), Room k A → Env0 P w G.K G.mg base A outer s H → Vals vs us → Vals zs ws → vs.length = n → zs.length = ks.length → spR G g (vs ++ zs) H Q E →
    codeAny (model P w) A (.call (.ref f) ⟨us, ks.zip ws⟩) (CR (L2.CX P w) outer P w H s Q E) s
/-- the values in the parameters' order: gU puts positional and keyword values and defaults -/
theorem FnM.k {P : Program} {w : World} {G : Gx} {base : Heap} {k : Nat} {f : Addr} {fd : FuncData} {ps ks : List Str} {m : F} {n : Nat} {gl : List Value → List Value → List Value} {gV : List V → List V → List V} (gU : List U → List U → List U) (Fn : FnM P w G base k f fd ps m) (hb : KBn G.K fd ps n ks gl gV)
    (hu : ∀ ρ H us vs ws zs, Reps G ρ H us vs → Reps G ρ H ws zs → us.length = n → ws.length = ks.length → Reps G ρ H (gU us ws) (gV vs zs) ∧ (gV vs zs).length = ps.length) :
    FnK P w G base k f n ks (fun us st => if us.length = n + ks.length then m (gU (us.take n) (us.drop n)) st else .stuck) := by
  intro A outer s H us ws vs zs Q E hr e0 r rz l1 l2 h
  obtain ⟨ρ, st, uu, R, rr, h⟩ := h
  dsimp only at h
  by_cases e : uu.length = n + ks.length
  · rw [if_pos e] at h
    have ra : Reps G ρ H (uu.take n) vs := by
      have := rr.take n
      rwa [List.take_left' l1] at this
    have rb : Reps G ρ H (uu.drop n) zs := by
      have := rr.drop n
      rwa [List.drop_left' l1] at this
    obtain ⟨h1, h2⟩ := hu ρ H _ _ _ _ ra rb (by rw [List.length_take]; omega) (by rw [List.length_drop]; omega)
    exact Fn.run A outer s H ⟨us, ks.zip ws⟩ (gl us ws) (gV vs zs) Q E hr e0 (hb.to s us ws (e0.mod.kin.keeps fun b o e => (e0.bs b o e).1) (r.length.symm.trans l1) (rz.length.symm.trans l2)) (hb.rel r rz) ⟨h2, ρ, st, _, R, h1, h⟩
  · rw [if_neg e] at h; exact h.elim
theorem runK {k n : Nat} {f : Addr} {ks : List Str} {g : F} {A : Around} {pins : List (Addr × Obj)} {σ : L2.St} {H : Hp} {s : Shared} {Q : VK} {us ws : List Value} {vs zs : List V} (Fn : FnK X.prog X.w (gx X) X.base k f n ks g) (tk : Takes X W) (hr : Room k A) (e0 : Env0 X.prog X.w X.K X.mg X.base A X.stack s H)
    (I : Inv X pins σ H s) (r : Vals vs us) (rz : Vals zs ws) (l1 : vs.length = n) (l2 : zs.length = ks.length) (h : spR (gx X) g (vs ++ zs) H Q (WE W σ)) : wpAny (model X.prog X.w) A (call (.ref f) us (ks.zip ws)) (EP X pins σ Q) X.xe s := by
  refine wpAny_call (codeAny_mono (Fn A X.stack s H us ws vs zs Q (WE W σ) hr e0 r rz l1 l2 h) fun r s' hq => ?_)
  cases r with
  | error e => exact passAt tk σ pins H s e s' I hq
  | ok fl =>
    cases fl with
    | ret u => exact I.after hq
    | next => exact False.elim hq
    | brk => exact False.elim hq
    | cont => exact False.elim hq
/-- f(e, .., k = v, ..) -/
theorem se_callK {x : Str} {p : Pos} {k n : Nat} {f : Addr} {ks : List Str} {g : F} {kws : List Keyword} {mk : M (List U)} (Fn : FnK X.prog X.w (gx X) X.base k f n ks g) (tk : Takes X W) (hr : Room k X.A) (hg : Gl X x) (hm : X.mg x = some (.ref f)) (hk : PySem.W.keepIn X.K (.ref f) = true)
    (ha : SA X W (e :: es) ms) (hkw : SK X W kws mk) (hn : (e :: es).length = n) (hall : (backToKw pos (keywordEach kws X.env)).all (·.1.isSome) = true := by rfl) (hks : (backToKw pos (keywordEach kws X.env)).filterMap (·.1) = ks := by rfl)
    (hdb : (x == ("__debug__" : Str)) = false := by decide) (he : starEach (e :: es) X.env = (false, eval e X.env) :: starEach es X.env := by rfl)
    (hpl : ((backTo pos (starEach (e :: es) X.env)).any (·.1) || (backToKw pos (keywordEach kws X.env)).any (·.1.isNone)) = false := by rfl) :
    SE X W (.Call (.Name x p) (e :: es) kws pos) (bd ms fun us => bd mk fun ws => when (us.length == n && ws.length == ks.length) (callF g (us ++ ws))) := by
  obtain ⟨⟨t, pa, h⟩, _⟩ := ha
  obtain ⟨tk', pk, hk'⟩ := hkw
  refine ⟨fun σ H Q => t σ H fun vs H1 => tk' σ H1 fun zs H2 => vs.length = n ∧ zs.length = ks.length ∧ spR (gx X) g (vs ++ zs) H2 Q (WE W σ), ⟨fun pins s σ H Q I k => ?_⟩, fun ρ s σ H Q R k => ?_⟩
  · refine wpAny_Call_Name_kw (ld_glob I hg hm ?_ hdb)
    refine PySem.W.callWith_KW (h₀ := X.base) I.ok.mod.kin hk hall (thn (pa.run pos pins s σ H _ I k) fun us s1 ⟨vs, H1, I1, r, q⟩ => ?_) hpl he
    refine thn (pk.run pos pins s1 σ H1 _ I1 q) fun ws s2 ⟨zs, H2, I2, rz, l1, l2, q2⟩ => ⟨I2.kIn, ?_⟩
    rw [hks]
    exact runK Fn tk hr I2.env0 I2 r rz l1 l2 q2
  · refine h ρ s σ H _ R (k.bd fun us s1 ρ1 H1 vs e1 x1 R1 r1 h1 => ?_)
    refine hk' ρ1 s1 σ H1 _ R1 (h1.bd fun ws s2 ρ2 H2 zs e2 x2 R2 r2 h2 => ?_)
    obtain ⟨z, h3⟩ := h2.when
    rw [Bool.and_eq_true] at z
    exact ⟨by rw [← r1.length]; exact beq_iff_eq.mp z.1, by rw [← r2.length]; exact beq_iff_eq.mp z.2, callU_run R2 ((r1.up x2.toUp).app r2) h3⟩
end
end Mi

/-! Mini M: instances: attributes, making, methods, properties, items. -/
namespace Mi
open PySem PySem.Spec PyProof.Rows L2

/-- fl c f: the class c is plain, f is no name of it (so a plain attribute) -/
def FldT (G : Gx) (fl : Str → Str → Bool) : Prop := ∀ c f C, fl c f = true → G.mg c = some (.ref C) → Cls G.K C ∧ NoAttr G.K C f
theorem RepF.get {G : Gx} {ρ : Rho} {H : Hp} {f : Str} {u : U} : ∀ {us : List (Str × U)} {vs : List (Str × V)}, RepF G ρ H us vs → us.lookup f = some u → ∃ v, vs.lookup f = some v ∧ Rep G ρ H u v
  | _, _, .nil, e => by cases e
  | (k, w) :: us, (_, v) :: vs, .cons h r, e => by
    rw [List.lookup_cons] at e ⊢
    cases q : f == k with
    | true => rw [q] at e; cases e; exact ⟨v, rfl, h⟩
    | false => rw [q] at e; exact RepF.get r e
theorem RepF.no {G : Gx} {ρ : Rho} {H : Hp} {f : Str} : ∀ {us : List (Str × U)} {vs : List (Str × V)}, RepF G ρ H us vs → us.lookup f = none → vs.lookup f = none
  | _, _, .nil, _ => rfl
  | (k, w) :: us, (_, v) :: vs, .cons h r, e => by
    rw [List.lookup_cons] at e ⊢
    cases q : f == k with
    | true => rw [q] at e; cases e
    | false => rw [q] at e; exact RepF.no r e
theorem RepF.length {G : Gx} {ρ : Rho} {H : Hp} : ∀ {us : List (Str × U)} {vs : List (Str × V)}, RepF G ρ H us vs → us.length = vs.length
  | _, _, .nil => rfl
  | _, _, .cons _ r => congrArg (· + 1) r.length
def putA {α : Type} (f : Str) (v : α) : List (Str × α) → List (Str × α)
  | [] => [(f, v)]
  | (g, x) :: r => if g = f then (g, v) :: r else (g, x) :: putA f v r
theorem RepF.put {G : Gx} {ρ : Rho} {H : Hp} {f : Str} {u : U} {v : V} (q : Rep G ρ H u v) : ∀ {us : List (Str × U)} {vs : List (Str × V)}, RepF G ρ H us vs → RepF G ρ H (putA f u us) (putF f v vs)
  | _, _, .nil => .cons q .nil
  | (k, w) :: us, (_, v') :: vs, .cons h r => by
    unfold putA putF
    by_cases e : k = f
    · rw [if_pos e, if_pos e]; exact .cons q r
    · rw [if_neg e, if_neg e]; exact .cons h (RepF.put q r)
section
variable {X : Cx} {W : WX} {e a b c o : Expr} {es rest : List Expr} {m ma mb mc : M U} {ms : M (List U)} {mt mt2 : M Bool} {pos : Pos} {fl : Str → Str → Bool}
/-! ### attributes -/
def getA (fl : Str → Str → Bool) (f : Str) : U → M U
  | .obj c us => when (fl c f) (ofO (us.lookup f))
  | _ => stk
theorem se_fld {f : Str} (T : FldT (gx X) fl) (h : SE0 X W o m) (hb : attributeBase o f X.env (eval o X.env) = eval o X.env := by rfl) : SE X W (.Attribute o f pos) (un (getA fl f) m) := by
  obtain ⟨t, p, h⟩ := h
  refine ⟨_, pe_fld p hb, fun ρ s σ H Q R k => ?_⟩
  refine h ρ s σ H _ R (k.bd fun u s1 ρ1 H1 v _ x1 R1 r1 h1 => ?_)
  obtain ⟨u', c1, h2⟩ := ct_con R1 r1 h1
  cases u' with
  | obj c us =>
    obtain ⟨a, C, dx, vs, rfl, mc, eh, r⟩ := c1.obj
    obtain ⟨e1, h3⟩ := Ok.when (m := ofO (us.lookup f)) h2
    obtain ⟨z, e2, h4⟩ := h3.ofO
    obtain ⟨v, e3, rv⟩ := r.get e2
    obtain ⟨c0, n0⟩ := T c f C e1 mc
    exact ⟨a, C, dx, vs, v, rfl, eh, c0, n0, e3, h4.ret R1 rv⟩
  | _ => exact h2.elim
def setA (fl : Str → Str → Bool) (f : Str) (y : U) : U → Option U
  | .obj c us => if (fl c f && decide (us.length < 1000)) = true then some (.obj c (putA f y us)) else none
  | _ => none
theorem ss_fld {f : Str} {p' : Pos} (T : FldT (gx X) fl) (ho : SE0 X W o ma) (hv : SE X W e m) (hs : swapsWith e (some (.Attribute o f p')) pos.line X.env = pure false := by rfl) : SS X W (.Assign [.Attribute o f p'] e pos) (bd m fun y => bd ma fun x => bd (upC x (setA fl f y)) fun _ => ret .nx) := by
  obtain ⟨t, p, ho⟩ := ho
  obtain ⟨tv, q, hv⟩ := hv
  refine ⟨_, ps_fld p q hs, fun ρ s σ H D R k => ?_⟩
  refine hv ρ s σ H _ R (OkS.bdE k fun y s1 ρ1 H1 v _ x1 R1 r1 h1 => ?_)
  refine ho ρ1 s1 σ H1 _ R1 (OkS.bdE h1 fun x s2 ρ2 H2 z _ x2 R2 r2 h2 => ?_)
  have ry := r1.up x2.toUp
  rcases upC_ok (f := setA fl f y) R2 r2 with ⟨ad, cc, c', s', rfl, w, nz, ow, ef, es, hw⟩ | es
  · unfold bd at h2
    rw [es] at h2
    cases cc with
    | obj c us =>
      have ef : (if (fl c f && decide (us.length < 1000)) = true then some (U.obj c (putA f y us)) else none) = some c' := ef
      by_cases g : (fl c f && decide (us.length < 1000)) = true
      · rw [if_pos g] at ef
        cases ef
        rw [Bool.and_eq_true] at g
        obtain ⟨C, dx, vs, mc, eh, r⟩ := ow
        obtain ⟨c0, n0⟩ := T c f C g.1 mc
        have up2 : Up (gx X) ρ2 H2 ρ2 (upd H2 ad (.ins C dx (putF f v vs))) := put_up w
        obtain ⟨x3, R3⟩ := hw (.ins C dx (putF f v vs)) ⟨C, dx, _, mc, upd_same, (r.put ry).up up2⟩
        exact ⟨ad, C, dx, vs, rfl, eh, c0, n0, by rw [← r.length]; exact of_decide_eq_true g.2, h2 _ σ _ x3 R3⟩
      · rw [if_neg g] at ef; cases ef
    | _ => cases ef
  · unfold bd at h2
    rw [es] at h2; exact h2.elim

/-! ### no mention of a stored object -/
mutual
def noR (j : Nat) : U → Bool
  | .ref k => k != j
  | .slot _ => false
  | .tup us => noRs j us
  | .lst us => noRs j us
  | .kl us => noRs j us
  | .dK kvs => noRd j kvs
  | .dT kvs => noRt j kvs
  | .obj _ fs => noRf j fs
  | .exc _ fs => noRf j fs
  | _ => true
def noRs (j : Nat) : List U → Bool
  | [] => true
  | u :: us => noR j u && noRs j us
def noRd (j : Nat) : List (Key × U) → Bool
  | [] => true
  | (_, u) :: us => noR j u && noRd j us
def noRt (j : Nat) : List (List Key × U) → Bool
  | [] => true
  | (_, u) :: us => noR j u && noRt j us
def noRf (j : Nat) : List (Str × U) → Bool
  | [] => true
  | (_, u) :: us => noR j u && noRf j us
end
end
section
variable {G : Gx} {ρ ρ' : Rho} {H H' : Hp} {j : Nat}
mutual
theorem Rep.noR (e : ρ.ss j = none) : ∀ {u : U} {v : V}, Rep G ρ H u v → noR j u = true
  | _, _, .non => rfl
  | _, _, .bl => rfl
  | _, _, .int => rfl
  | _, _, .str => rfl
  | _, _, .tup h r => Reps.noR e r
  | _, _, .lst h r => Reps.noR e r
  | _, _, .kl h r => Reps.noR e r
  | _, _, .dK h n r => RepD.noR e r
  | _, _, .dT h n r => RepT.noR e r
  | _, _, .obj m h n r => RepF.noR e r
  | _, _, .exc m z h hd n n' r => RepF.noR e r
  | _, _, .cls m => rfl
  | _, _, .ty => rfl
  | _, _, @Rep.ref _ _ _ k a h => by
    show (k != j) = true
    by_cases z : k = j
    · subst z; rw [e] at h; cases h
    · exact bne_iff_ne.mpr z
theorem Reps.noR (e : ρ.ss j = none) : ∀ {us : List U} {vs : List V}, Reps G ρ H us vs → noRs j us = true
  | _, _, .nil => rfl
  | _, _, .cons h r => Bool.and_eq_true_iff.mpr ⟨Rep.noR e h, Reps.noR e r⟩
theorem RepD.noR (e : ρ.ss j = none) : ∀ {us : List (Key × U)} {vs : List (Key × V)}, RepD G ρ H us vs → noRd j us = true
  | _, _, .nil => rfl
  | _, _, .cons h r => Bool.and_eq_true_iff.mpr ⟨Rep.noR e h, RepD.noR e r⟩
theorem RepT.noR (e : ρ.ss j = none) : ∀ {us : List (List Key × U)} {vs : List (List Key × V)}, RepT G ρ H us vs → noRt j us = true
  | _, _, .nil => rfl
  | _, _, .cons h r => Bool.and_eq_true_iff.mpr ⟨Rep.noR e h, RepT.noR e r⟩
theorem RepF.noR (e : ρ.ss j = none) : ∀ {us : List (Str × U)} {vs : List (Str × V)}, RepF G ρ H us vs → noRf j us = true
  | _, _, .nil => rfl
  | _, _, .cons h r => Bool.and_eq_true_iff.mpr ⟨Rep.noR e h, RepF.noR e r⟩
end
/-- fewer owners; the stored ones but j stay -/
structure Less (j : Nat) (ρ ρ' : Rho) : Prop where
  wr : ∀ a, ρ'.wr a → ρ.wr a
  ss : ∀ k a, k ≠ j → ρ.ss k = some a → ρ'.ss k = some a
theorem Less.tupR (x : Less j ρ ρ') {a : Addr} {vs : List V} (h : TupR G ρ H a vs) : TupR G ρ' H a vs := h.imp (fun h => ⟨h.1, fun w => h.2 (x.wr a w)⟩) id
theorem Less.klR (x : Less j ρ ρ') {a : Addr} {vs : List V} (h : KlR G ρ H a vs) : KlR G ρ' H a vs := h.imp (fun h => ⟨h.1, fun w => h.2 (x.wr a w)⟩) id
mutual
theorem Rep.less (x : Less j ρ ρ') : ∀ {u : U} {v : V}, Rep G ρ H u v → noR j u = true → Rep G ρ' H u v
  | _, _, .non, _ => .non
  | _, _, .bl, _ => .bl
  | _, _, .int, _ => .int
  | _, _, .str, _ => .str
  | _, _, .tup h r, e => .tup (x.tupR h) (Reps.less x r e)
  | _, _, .lst h r, e => .lst ⟨h.1, fun w => h.2 (x.wr _ w)⟩ (Reps.less x r e)
  | _, _, .kl h r, e => .kl (x.klR h) (Reps.less x r e)
  | _, _, .dK h n r, e => .dK h (fun w => n (x.wr _ w)) (RepD.less x r e)
  | _, _, .dT h n r, e => .dT h (fun w => n (x.wr _ w)) (RepT.less x r e)
  | _, _, .obj m h n r, e => .obj m h (fun w => n (x.wr _ w)) (RepF.less x r e)
  | _, _, .exc m z h hd n n' r, e => .exc m z h hd (fun w => n (x.wr _ w)) (fun w => n' (x.wr _ w)) (RepF.less x r e)
  | _, _, .cls m, _ => .cls m
  | _, _, .ty, _ => .ty
  | _, _, .ref h, e => .ref (x.ss _ _ (bne_iff_ne.mp e) h)
theorem Reps.less (x : Less j ρ ρ') : ∀ {us : List U} {vs : List V}, Reps G ρ H us vs → noRs j us = true → Reps G ρ' H us vs
  | _, _, .nil, _ => .nil
  | _, _, .cons h r, e => .cons (Rep.less x h (Bool.and_eq_true_iff.mp e).1) (Reps.less x r (Bool.and_eq_true_iff.mp e).2)
theorem RepD.less (x : Less j ρ ρ') : ∀ {us : List (Key × U)} {vs : List (Key × V)}, RepD G ρ H us vs → noRd j us = true → RepD G ρ' H us vs
  | _, _, .nil, _ => .nil
  | _, _, .cons h r, e => .cons (Rep.less x h (Bool.and_eq_true_iff.mp e).1) (RepD.less x r (Bool.and_eq_true_iff.mp e).2)
theorem RepT.less (x : Less j ρ ρ') : ∀ {us : List (List Key × U)} {vs : List (List Key × V)}, RepT G ρ H us vs → noRt j us = true → RepT G ρ' H us vs
  | _, _, .nil, _ => .nil
  | _, _, .cons h r, e => .cons (Rep.less x h (Bool.and_eq_true_iff.mp e).1) (RepT.less x r (Bool.and_eq_true_iff.mp e).2)
theorem RepF.less (x : Less j ρ ρ') : ∀ {us : List (Str × U)} {vs : List (Str × V)}, RepF G ρ H us vs → noRf j us = true → RepF G ρ' H us vs
  | _, _, .nil, _ => .nil
  | _, _, .cons h r, e => .cons (Rep.less x h (Bool.and_eq_true_iff.mp e).1) (RepF.less x r (Bool.and_eq_true_iff.mp e).2)
end
theorem Own.less (x : Less j ρ ρ') {u : U} {a : Addr} (h : Own G ρ H u a) (e : Mi.noR j u = true) : Own G ρ' H u a := by
  cases u with
  | lst us => obtain ⟨vs, k, r⟩ := h; exact ⟨vs, k, r.less x e⟩
  | dK us => obtain ⟨vs, k, r⟩ := h; exact ⟨vs, k, r.less x e⟩
  | dT us => obtain ⟨vs, k, r⟩ := h; exact ⟨vs, k, r.less x e⟩
  | obj c us => obtain ⟨C, dx, vs, m, k, r⟩ := h; exact ⟨C, dx, vs, m, k, r.less x e⟩
  | _ => exact h.elim
theorem OwnS.less (x : Less j ρ ρ') {u : U} {a : Addr} (h : OwnS G ρ H u a) (e : Mi.noR j u = true) : OwnS G ρ' H u a := by
  by_cases z : ∃ q, u = .tbl q
  · obtain ⟨q, rfl⟩ := z
    obtain ⟨ea, ps, e1, t, k⟩ := h
    exact ⟨ea, ps, e1, t, fun pos cv hc => let ⟨c, a1, a2, a3⟩ := k pos cv hc; ⟨c, a1, a2, fun w => a3 (x.wr _ w)⟩⟩
  · exact ((h.own fun q y => z ⟨q, y⟩).less x e).s
theorem Own.noR (e : ρ.ss j = none) {u : U} {a : Addr} (h : Own G ρ H u a) : Mi.noR j u = true := by
  cases u with
  | lst us => obtain ⟨vs, k, r⟩ := h; exact r.noR e
  | dK us => obtain ⟨vs, k, r⟩ := h; exact r.noR e
  | dT us => obtain ⟨vs, k, r⟩ := h; exact r.noR e
  | obj c us => obtain ⟨C, dx, vs, m, k, r⟩ := h; exact r.noR e
  | _ => exact h.elim
def Rho.unsto (ρ : Rho) (j : Nat) : Rho := { ρ with ss := fun k => if k = j then none else ρ.ss k }
theorem unsto_at {ow : Owner} {a : Addr} (h : (ρ.unsto j).At ow a) : ρ.At ow a ∧ ow ≠ .j j := by
  cases h with
  | @j k a h =>
    have h : (if k = j then none else ρ.ss k) = some a := h
    by_cases q : k = j
    · rw [if_pos q] at h; cases h
    · rw [if_neg q] at h; exact ⟨.j h, fun z => q (Owner.j.inj z)⟩
  | s h => exact ⟨.s h, fun z => nomatch z⟩
  | t h => exact ⟨.t h, fun z => nomatch z⟩
  | z h => exact ⟨.z h, fun z => nomatch z⟩
theorem unsto_wr {a : Addr} (h : (ρ.unsto j).wr a) : ρ.wr a := by
  obtain ⟨o, h⟩ := Rho.wr_iff.mp h
  exact (unsto_at h).1.wr
/-- the last stored object is taken out -/
theorem RlT.takeOut {s0 s : MS} {σ : L2.St} {D : Addr} {u : U} {ρ0 : Rho} {H0 : Hp} (R : Rl G ρ s σ H) (R0 : Rl G ρ0 s0 σ H0) (es : s.env = s0.env) (hj : s.st.length = j + 1) (hj0 : ρ0.ss j = none) (ea : ρ.ss j = some D) (eu : s.st[j]? = some u) (nu : Mi.noR j u = true) (nt : ∀ q, u ≠ .tbl q) (ns : noRs j (s.st.take j) = true) :
    (ρ.unsto j).tm = none ∧ ¬ (ρ.unsto j).wr D ∧ RlT G (some D) ((ρ.unsto j).tmp D) { s with st := s.st.take j } σ H ∧ Own G ((ρ.unsto j).tmp D) H u D := by
  have e : (ρ.unsto j).tm = none := R.tm
  have atD : ρ.At (.j j) D := .j ea
  have nw : ¬ (ρ.unsto j).wr D := fun w => by
    obtain ⟨o, h⟩ := Rho.wr_iff.mp w
    obtain ⟨h, n⟩ := unsto_at h
    exact n (R.dj _ _ _ h atD)
  have wr : ∀ a, ((ρ.unsto j).tmp D).wr a → ρ.wr a := fun a h => (tmp_wr e h).elim unsto_wr fun z => by rw [z]; exact atD.wr
  have L : Less j ρ ((ρ.unsto j).tmp D) := ⟨wr, fun k a n h => by show (if k = j then none else ρ.ss k) = some a; rw [if_neg n]; exact h⟩
  obtain ⟨D', e1, ow⟩ := R.sto j u eu
  have : D' = D := by rw [ea] at e1; exact (Option.some.inj e1).symm
  subst this
  have nall : ∀ (k : Nat) (w : U), (s.st.take j)[k]? = some w → Mi.noR j w = true := by
    have gen : ∀ (l : List U), noRs j l = true → ∀ (k : Nat) (w : U), l[k]? = some w → Mi.noR j w = true := fun l => by
      induction l with
      | nil => intro _ k w q; simp at q
      | cons x xs ih =>
        intro q k w qk
        have q := Bool.and_eq_true_iff.mp q
        cases k with
        | zero => simp at qk; subst qk; exact q.1
        | succ k => exact ih q.2 k w (by simpa using qk)
    exact gen _ ns
  refine ⟨e, nw, ⟨R.len, fun i w q => ?_, fun i w q => ?_, fun i a q => R.os i a q, fun k w q => ?_, fun k a q => ?_, fun o o' a h h' => ?_, fun a w => R.occ a (wr a w), rfl⟩, (ow.own nt).less L nu⟩
  · obtain ⟨v, h1, h2⟩ := R.val i w q
    obtain ⟨v', h1', h2'⟩ := R0.val i w (by rw [← es]; exact q)
    exact ⟨v, h1, h2.less L (h2'.noR hj0)⟩
  · obtain ⟨a, h1, h2, h3⟩ := R.own i w q
    obtain ⟨a', h1', h2', h3'⟩ := R0.own i w (by rw [← es]; exact q)
    exact ⟨a, h1, h2, h3.less L (h3'.noR hj0)⟩
  · have q' : (s.st.take j)[k]? = some w := q
    have hk : k < j := by
      have := (List.getElem?_eq_some_iff.mp q').1
      rw [List.length_take] at this; omega
    have q2 : s.st[k]? = some w := by rw [List.getElem?_take_of_lt hk] at q'; exact q'
    obtain ⟨a, h1, h2⟩ := R.sto k w q2
    exact ⟨a, by show (if k = j then none else ρ.ss k) = some a; rw [if_neg (by omega)]; exact h1, OwnS.less L h2 (nall k w q')⟩
  · have q : (if k = j then none else ρ.ss k) = some a := q
    by_cases z : k = j
    · rw [if_pos z] at q; cases q
    · rw [if_neg z] at q
      have := R.ss k a q
      show k < (s.st.take j).length
      rw [List.length_take]; omega
  · have key : ∀ {o a}, ((ρ.unsto j).tmp D').At o a → ∃ o2, ρ.At o2 a ∧ ((o = .t ∧ o2 = .j j) ∨ (o2 = o ∧ o ≠ .j j ∧ o ≠ .t)) := fun {o a} h => by
      rcases tmp_at e h with ⟨h, n⟩ | ⟨h1, h2⟩
      · obtain ⟨h, n2⟩ := unsto_at h
        exact ⟨o, h, .inr ⟨rfl, n2, n⟩⟩
      · exact ⟨.j j, by rw [h2]; exact atD, .inl ⟨h1, rfl⟩⟩
    obtain ⟨p, hp, cp⟩ := key h
    obtain ⟨p', hp', cp'⟩ := key h'
    have ep := R.dj _ _ _ hp hp'
    rcases cp with ⟨c1, c2⟩ | ⟨c1, c2, c3⟩ <;> rcases cp' with ⟨c1', c2'⟩ | ⟨c1', c2', c3'⟩
    · rw [c1, c1']
    · rw [c2] at ep; rw [← c1'] at c2'; exact absurd ep.symm c2'
    · rw [c2'] at ep; rw [← c1] at c2; exact absurd ep c2
    · rw [← c1, ← c1', ep]
end
end Mi

/-! Mini N: making instances; methods; properties; operators of classes. -/
namespace Mi
open PySem PySem.Spec PyProof.Rows L2

/-- the made object is taken out of the store -/
def isTb : U → Bool
  | .tbl _ => true
  | _ => false
theorem isTb_ne {u : U} (h : (!isTb u) = true) (q : Str) : u ≠ .tbl q := fun z => by subst z; cases h
def outO (j : Nat) (s : MS) : Res (List U) U → Res MS U
  | .ok u st' => match u with
    | .non => (match st'[j]? with
      | some w => if (st'.length == j + 1 && (!isTb w) && noR j w && noRs j (st'.take j)) = true then .ok w { s with st := st'.take j } else .stuck
      | none => .stuck)
    | _ => .stuck
  | .err x st' => (match st'[j]? with
      | some w => if (st'.length == j + 1 && (!isTb w) && noR j w && noRs j (st'.take j) && noR j x) = true then .err x { s with st := st'.take j } else .stuck
      | none => .stuck)
  | .stuck => .stuck
def mkO (c : Str) (g : F) (us : List U) : M U := fun s => outO s.st.length s (g (.ref s.st.length :: us) (s.st ++ [.obj c []]))
/-- .. it stays in the store -/
def mkS (c : Str) (g : F) (us : List U) : M U := fun s => match g (.ref s.st.length :: us) (s.st ++ [.obj c []]) with
  | .ok u st' => (match u with
    | .non => .ok (.ref s.st.length) { s with st := st' }
    | _ => .stuck)
  | .err x st' => .err x { s with st := st' }
  | .stuck => .stuck
section
variable {X : Cx} {W : WX} {e a b c o : Expr} {es rest : List Expr} {m ma mb mc : M U} {ms : M (List U)} {mt mt2 : M Bool} {pos : Pos} {fl : Str → Str → Bool}
theorem ExcRep.less {G : Gx} {ρ ρ' : Rho} {H : Hp} {j : Nat} {x : U} {cls : Value} {d : Option Addr} (L : Less j ρ ρ') (h : ExcRep G ρ H x cls d) (e : noR j x = true) : ExcRep G ρ' H x cls d := by
  cases x with
  | exc c fs => obtain ⟨C, m, e1, dx, vs, ed, q, r⟩ := h; exact ⟨C, m, e1, dx, vs, ed, q, r.less L e⟩
  | ty n => exact h
  | _ => exact h.elim
/-- a new instance, the callee's promise -/
theorem mk_new {C x dx : Addr} {cn : Str} {ρ : Rho} {s : MS} {σ : L2.St} {H : Hp} (R : Rl (gx X) ρ s σ H) (mc : X.mg cn = some (.ref C)) (hx : H x = none) (hd : H dx = none) (ne : dx ≠ x) :
    Rl (gx X) (ρ.sto s.st.length x) { s with st := s.st ++ [.obj cn []] } σ (upd (upd H dx (.own x)) x (.ins C dx [])) ∧ Ext (gx X) ρ H (ρ.sto s.st.length x) (upd (upd H dx (.own x)) x (.ins C dx [])) ∧ ρ.ss s.st.length = none ∧ (ρ.sto s.st.length x).ss s.st.length = some x := by
  have hx' : upd H dx (HO.own x) x = none := by rw [upd_ne (Ne.symm ne)]; exact hx
  have R1 := R.laid (o := .own x) hd
  have x1 : Ext (gx X) ρ H ρ (upd H dx (.own x)) := R.laidExt hd
  have R2 := R1.lay (o := .ins C dx []) hx' trivial
  have x2 : Ext (gx X) ρ (upd H dx (.own x)) ρ (upd (upd H dx (.own x)) x (.ins C dx [])) := R1.laidExt hx'
  have R3 := R2.toStore R.tm (R1.fresh hx') (u := .obj cn []) ⟨C, dx, [], mc, upd_same, .nil⟩
  have x3 := sto_ext R2 (x1.trans x2) (fun q e => by rw [hx] at e; cases e)
  exact ⟨R3, x3, sto_none R, if_pos rfl⟩
theorem run_mk {C : Addr} {cn : Str} {k : Nat} {f : Addr} {pins : List (Addr × Obj)} {σ : L2.St} {H : Hp} {s : Shared} {Q : VK} {us : List Value} {vs : List V} {g : F} (M : Mk X.K C f) (Fn : FnU X.prog X.w (gx X) X.base k f g) (tk : Takes X W) (hr : Room (k + 1) X.A) (I : Inv X pins σ H s) (r : Vals vs us)
    (h : ∀ x dx, H x = none → H dx = none → dx ≠ x → spR (gx X) g (V.ref x :: vs) (upd (upd H dx (.own x)) x (.ins C dx [])) (fun v H2 => v = .non ∧ Q (.ref x) H2) (WE W σ)) :
    wpAny (model X.prog X.w) X.A (call (.ref C) us) (EP X pins σ Q) X.xe s := by
  have J := Inv.made (C := C) I
  have hs := h (s.heap.objs.size + 1) s.heap.objs.size (I.hok.fresh (Nat.le_succ _)) (I.hok.fresh (Nat.le_refl _)) (Nat.ne_of_lt (Nat.lt_succ_self _))
  have rv : Vals (V.ref (s.heap.objs.size + 1) :: vs) (Value.ref (s.heap.objs.size + 1) :: us) := .cons rfl r
  refine wpAny_call (make_map (f := f) I.kIn M.makes M.init (beq_iff_eq.mp M.fn) ?_)
  refine codeAny_mono (Fn _ X.stack _ _ _ _ _ _ (hr.make C us []) (J.env0.make C us []) rv hs) fun r s' hq => ?_
  cases r with
  | error e => exact passAt tk σ pins _ _ e s' J hq
  | ok fl =>
    cases fl with
    | ret u =>
      obtain ⟨v, H', I3, rv, ev, q3⟩ := J.after hq
      subst ev
      exact ⟨rv, ⟨V.ref (s.heap.objs.size + 1), H', I3, rfl, q3⟩⟩
    | _ => exact False.elim hq
theorem mkO_run {C x dx : Addr} {cn : Str} {g : F} {ρ : Rho} {s : MS} {σ : L2.St} {H : Hp} {us : List U} {vs : List V} {Q : VK} (mc : X.mg cn = some (.ref C)) (R : Rl (gx X) ρ s σ H) (r : Reps (gx X) ρ H us vs) (h : OkN X W ρ σ H (mkO cn g us s) Q) (hx : H x = none) (hd : H dx = none) (ne : dx ≠ x) :
    spR (gx X) g (V.ref x :: vs) (upd (upd H dx (.own x)) x (.ins C dx [])) (fun v H2 => v = .non ∧ Q (.ref x) H2) (WE W σ) := by
  obtain ⟨R3, x3, hn, hs⟩ := mk_new R mc hx hd ne
  have rr : Reps (gx X) (ρ.sto s.st.length x) (upd (upd H dx (.own x)) x (.ins C dx [])) (.ref s.st.length :: us) (V.ref x :: vs) := .cons (.ref hs) (r.up x3.toUp)
  refine callU_run R3 rr ?_
  unfold callF
  have h : OkN X W ρ σ H (outO s.st.length s (g (.ref s.st.length :: us) (s.st ++ [.obj cn []]))) Q := h
  have key : ∀ {ρ' : Rho} {H' : Hp} {st' : List U} {w : U}, Ext (gx X) (ρ.sto s.st.length x) (upd (upd H dx (.own x)) x (.ins C dx [])) ρ' H' → Rl (gx X) ρ' { s with st := st' } σ H' → st'[s.st.length]? = some w → (st'.length == s.st.length + 1 && (!isTb w) && noR s.st.length w && noRs s.st.length (st'.take s.st.length)) = true →
      (ρ'.unsto s.st.length).tm = none ∧ ¬ (ρ'.unsto s.st.length).wr x ∧ RlT (gx X) (some x) ((ρ'.unsto s.st.length).tmp x) { s with st := st'.take s.st.length } σ H' ∧ Own (gx X) ((ρ'.unsto s.st.length).tmp x) H' w x ∧ Ext (gx X) ρ H (ρ'.unsto s.st.length) H' := fun {ρ' H' st' w} xx RR ew ck => by
    rw [Bool.and_eq_true, Bool.and_eq_true, Bool.and_eq_true, beq_iff_eq] at ck
    obtain ⟨k1, k2, k3, k4⟩ := RlT.takeOut (j := s.st.length) (D := x) (u := w) RR R rfl ck.1.1.1 hn (xx.ss _ _ hs) ew ck.1.2 (isTb_ne ck.1.1.2) ck.2
    have X4 := x3.trans xx
    refine ⟨k1, k2, k3, k4, ⟨⟨fun b q e n t => ⟨(X4.keep b q e n t).1, fun w => (X4.keep b q e n t).2 (unsto_wr w)⟩, fun k b e => ?_⟩, X4.Z, X4.zk⟩⟩
    show (if k = s.st.length then none else ρ'.ss k) = some b
    rw [if_neg (fun z => by subst z; rw [hn] at e; cases e)]
    exact X4.ss k b e
  dsimp only
  cases q : g (.ref s.st.length :: us) (s.st ++ [.obj cn []]) with
  | ok u st' =>
    rw [q] at h
    unfold outO at h
    dsimp only at h
    cases u with
    | non =>
      dsimp only at h
      cases ew : st'[s.st.length]? with
      | none => rw [ew] at h; exact h.elim
      | some w =>
        rw [ew] at h
        dsimp only at h
        by_cases ck : (st'.length == s.st.length + 1 && (!isTb w) && noR s.st.length w && noRs s.st.length (st'.take s.st.length)) = true
        · rw [if_pos ck] at h
          intro ρ' H' v xx RR rv
          cases rv
          obtain ⟨k1, k2, k3, k4, k5⟩ := key xx RR ew ck
          exact ⟨rfl, h _ H' x (fun q e => by rw [hx] at e; cases e) k5 k1 k2 k3 k4⟩
        · rw [if_neg ck] at h; exact h.elim
    | _ => exact h.elim
  | err y st' =>
    rw [q] at h
    unfold outO at h
    dsimp only at h
    cases ew : st'[s.st.length]? with
    | none => rw [ew] at h; exact h.elim
    | some w =>
      rw [ew] at h
      dsimp only at h
      by_cases ck : (st'.length == s.st.length + 1 && (!isTb w) && noR s.st.length w && noRs s.st.length (st'.take s.st.length) && noR s.st.length y) = true
      · rw [if_pos ck] at h
        rw [Bool.and_eq_true] at ck
        intro ρ' H' cls d xx RR rv
        obtain ⟨k1, k2, k3, k4, k5⟩ := key xx RR ew ck.1
        have L : Less s.st.length ρ' (ρ'.unsto s.st.length) := ⟨fun a w => unsto_wr w, fun k a n e => by show (if k = s.st.length then none else ρ'.ss k) = some a; rw [if_neg n]; exact e⟩
        exact h _ H' cls d k5 (k3.letgo k1) (rv.less L ck.2)
      · rw [if_neg ck] at h; exact h.elim
  | stuck => rw [q] at h; exact h.elim
/-- C(e, ..) -/
theorem sen_make {x : Str} {p : Pos} {k : Nat} {f C : Addr} {g : F} (M : Mk X.K C f) (Fn : FnU X.prog X.w (gx X) X.base k f g) (tk : Takes X W) (hr : Room (k + 1) X.A) (hg : Gl X x) (hm : X.mg x = some (.ref C)) (ha : SA X W (e :: es) ms)
    (hdb : (x == ("__debug__" : Str)) = false := by decide) (he : starEach (e :: es) X.env = (false, eval e X.env) :: starEach es X.env := by rfl) (hpl : (backTo pos (starEach es X.env)).any (·.1) = false := by rfl) :
    SEN X W (.Call (.Name x p) (e :: es) [] pos) (bd ms (mkO x g)) := by
  obtain ⟨⟨t, pa, h⟩, _⟩ := ha
  refine ⟨fun σ H Q => t σ H fun vs H1 => ∀ x dx, H1 x = none → H1 dx = none → dx ≠ x → spR (gx X) g (V.ref x :: vs) (upd (upd H1 dx (.own x)) x (.ins C dx [])) (fun v H2 => v = .non ∧ Q (.ref x) H2) (WE W σ), ⟨fun pins s σ H Q I k => ?_⟩, fun ρ s σ H Q R k => ?_⟩
  · refine wpAny_Call_Name_kw (ld_glob I hg hm ?_ hdb)
    refine PySem.W.callWith_K (h₀ := X.base) I.ok.mod.kin M.kp (thn (pa.run pos pins s σ H _ I k) fun us s1 ⟨vs, H1, I1, r, q⟩ => ⟨I1.kIn, ?_⟩) he hpl
    exact run_mk (cn := x) M Fn tk hr I1 r q
  · exact h ρ s σ H _ R (k.bd fun us s1 ρ1 H1 vs _ x1 R1 r1 h1 a dx ha hd ne => mkO_run hm R1 r1 h1 ha hd ne)

/-! ### methods, properties -/
/-- the class cn has m as the def at f -/
structure MthOf (G : Gx) (cn m : Str) (C f : Addr) : Prop where
  mc : G.mg cn = some (.ref C)
  c : Cls G.K C
  m : Meth G.K C m f
def methM (cn m : Str) (mo : M U) (ms : M (List U)) (g : F) : M U := bd mo fun u => bd (ct u) fun u' => match u' with
  | .obj c fs => when (decide (c = cn) && (fs.lookup m).isNone) (bd ms fun us => callF g (u :: us))
  | _ => stk
theorem no_lookup {G : Gx} {ρ : Rho} {H : Hp} {f : Str} {us : List (Str × U)} {vs : List (Str × V)} (r : RepF G ρ H us vs) (e : (us.lookup f).isNone = true) : vs.lookup f = none := r.no (Option.isNone_iff_eq_none.mp e)
/-- o.m(e, ..) -/
theorem se_meth {cn mn : Str} {k : Nat} {f C : Addr} {g : F} {apos : Pos} {pl : Sem Bool} (T : MthOf (gx X) cn mn C f) (Fn : FnU X.prog X.w (gx X) X.base k f g) (tk : Takes X W) (hr : Room k X.A) (ho : SE X W o m) (ha : SA X W (e :: es) ms)
    (hst : starEach (e :: es) X.env = (false, eval e X.env) :: starEach es X.env := by rfl) (hpl : (backTo pos (starEach es X.env)).any (·.1) = false := by rfl)
    (ht : eval (.Call (.Attribute o mn apos) (e :: es) [] pos) X.env = (do
      let ov ← eval o X.env
      standAt apos.atName
      let (f, first) ← holding [ov] (getMethod ov mn pl)
      callWith pos f first (backTo pos (starEach (e :: es) X.env)) (backToKw pos (keywordEach [] X.env))) := by rfl) :
    SE X W (.Call (.Attribute o mn apos) (e :: es) [] pos) (methM cn mn m ms g) := by
  obtain ⟨to, po, ho⟩ := ho
  obtain ⟨⟨t, pa, h⟩, _⟩ := ha
  refine ⟨fun σ H Q => to σ H fun x H1 => ∃ a dx fs, x = .ref a ∧ H1 a = some (.ins C dx fs) ∧ fs.lookup mn = none ∧ t σ H1 fun vs H2 => spR (gx X) g (x :: vs) H2 Q (WE W σ), ⟨fun pins s σ H Q I k => ?_⟩, fun ρ s σ H Q R k => ?_⟩
  · refine PySem.W.methodCall_KW (pl := pl) (thn (po.run pins s σ H _ I k) fun u s1 ⟨x, H1, I1, rx, a, dx, fs, ex, ea, l, q⟩ => ?_) ht
    subst ex
    obtain rfl : u = Value.ref a := rx
    refine getmeth_ok I1 ea T.c T.m l ?_
    refine PySem.W.callWith_K (first := [.ref a]) (h₀ := X.base) I.ok.mod.kin T.m.kp (thn (pa.run pos pins s1 σ H1 _ I1 q) fun us s2 ⟨vs, H2, I2, r, q2⟩ => ⟨I2.kIn, ?_⟩) hst hpl
    exact runU (us := .ref a :: us) (vs := .ref a :: vs) Fn tk hr I2.env0 I2 (.cons rfl r) q2
  · refine ho ρ s σ H _ R (k.bd fun u s1 ρ1 H1 v _ x1 R1 r1 h1 => ?_)
    obtain ⟨u', c1, h2⟩ := ct_con R1 r1.e h1
    cases u' with
    | obj cc us =>
      obtain ⟨a, C', dx, vs, rfl, mc, eh, r⟩ := c1.obj
      dsimp only at h2
      obtain ⟨e1, h3⟩ := Ok.when h2
      rw [Bool.and_eq_true] at e1
      have ec := of_decide_eq_true e1.1
      subst ec
      have mc : X.mg cc = some (.ref C') := mc
      rw [show X.mg cc = some (.ref C) from T.mc] at mc
      cases mc
      refine ⟨a, dx, vs, rfl, eh, no_lookup r e1.2, ?_⟩
      exact h ρ1 s1 σ H1 _ R1 (h3.bd fun us s2 ρ2 H2 vs _ x2 R2 r2 h4 => callU_run R2 (.cons (r1.up x2.toUp) r2) h4)
    | _ => exact h2.elim
theorem se_meth0 {cn mn : Str} {k : Nat} {f C : Addr} {g : F} {apos : Pos} {pl : Sem Bool} (T : MthOf (gx X) cn mn C f) (Fn : FnU X.prog X.w (gx X) X.base k f g) (tk : Takes X W) (hr : Room k X.A) (ho : SE X W o m)
    (ht : eval (.Call (.Attribute o mn apos) [] [] pos) X.env = (do
      let ov ← eval o X.env
      standAt apos.atName
      let (f, first) ← holding [ov] (getMethod ov mn pl)
      callWith pos f first (backTo pos (starEach [] X.env)) (backToKw pos (keywordEach [] X.env))) := by rfl) :
    SE X W (.Call (.Attribute o mn apos) [] [] pos) (methM cn mn m (ret []) g) := by
  obtain ⟨to, po, ho⟩ := ho
  refine ⟨fun σ H Q => to σ H fun x H1 => ∃ a dx fs, x = .ref a ∧ H1 a = some (.ins C dx fs) ∧ fs.lookup mn = none ∧ spR (gx X) g [x] H1 Q (WE W σ), ⟨fun pins s σ H Q I k => ?_⟩, fun ρ s σ H Q R k => ?_⟩
  · refine PySem.W.methodCall_KW (pl := pl) (thn (po.run pins s σ H _ I k) fun u s1 ⟨x, H1, I1, rx, a, dx, fs, ex, ea, l, q⟩ => ?_) ht
    subst ex
    obtain rfl : u = Value.ref a := rx
    refine getmeth_ok I1 ea T.c T.m l ?_
    exact PySem.W.callWith_K0 (first := [.ref a]) I1.kIn T.m.kp (runU (us := [.ref a]) (vs := [.ref a]) Fn tk hr I1.env0 I1 (.cons rfl .nil) q)
  · refine ho ρ s σ H _ R (k.bd fun u s1 ρ1 H1 v _ x1 R1 r1 h1 => ?_)
    obtain ⟨u', c1, h2⟩ := ct_con R1 r1.e h1
    cases u' with
    | obj cc us =>
      obtain ⟨a, C', dx, vs, rfl, mc, eh, r⟩ := c1.obj
      dsimp only at h2
      obtain ⟨e1, h3⟩ := Ok.when h2
      rw [Bool.and_eq_true] at e1
      have ec := of_decide_eq_true e1.1
      subst ec
      have mc : X.mg cc = some (.ref C') := mc
      rw [show X.mg cc = some (.ref C) from T.mc] at mc
      cases mc
      exact ⟨a, dx, vs, rfl, eh, no_lookup r e1.2, callU_run R1 (.cons r1 .nil) h3⟩
    | _ => exact h2.elim
/-- a property -/
structure PrpOf (G : Gx) (cn f : Str) (C p g : Addr) : Prop where
  mc : G.mg cn = some (.ref C)
  c : Cls G.K C
  m : PropOf G.K C f p g
/-- no exception may leave it -/
def noE {α : Type} (m : M α) : M α := fun s => match m s with
  | .ok a s' => .ok a s'
  | _ => .stuck
def propM (cn : Str) (mo : M U) (g : F) : M U := bd mo fun u => bd (ct u) fun u' => match u' with
  | .obj c _ => when (decide (c = cn)) (noE (callF g [u]))
  | _ => stk
theorem noE_ok {α β : Type} {R1 : Rho → Hp → α → β → Prop} {m : M α} {ρ : Rho} {s : MS} {σ : L2.St} {H : Hp} {Q : β → Hp → Prop} (h : Ok X W R1 ρ σ H (noE m s) Q) : Ok X W0 R1 ρ σ H (m s) Q := by
  unfold noE at h
  cases q : m s with
  | ok a s' => rw [q] at h; exact h
  | err y s' => rw [q] at h; exact h.elim
  | stuck => rw [q] at h; exact h.elim
theorem se_prop {cn f : Str} {k : Nat} {C p gf : Addr} {g : F} (T : PrpOf (gx X) cn f C p gf) (Fn : FnU X.prog X.w (gx X) X.base k gf g) (tk : Takes X W) (hr : Room (k + 1) X.A) (ho : SE X W o m) (hab : attributeBase o f X.env (eval o X.env) = eval o X.env := by rfl) :
    SE X W (.Attribute o f pos) (propM cn m g) := by
  obtain ⟨to, po, ho⟩ := ho
  refine ⟨fun σ H Q => to σ H fun x H1 => ∃ a dx fs, x = .ref a ∧ H1 a = some (.ins C dx fs) ∧ spR (gx X) g [x] H1 Q (WE W0 σ), ⟨fun pins s σ H Q I k => ?_⟩, fun ρ s σ H Q R k => ?_⟩
  · refine attr_of hab (thn (po.run pins s σ H _ I k) fun u s1 ⟨x, H1, I1, rx, a, dx, fs, ex, ea, q⟩ => ?_)
    subst ex
    obtain rfl : u = Value.ref a := rx
    obtain ⟨mA, O, _, _, _, _⟩ := ins_get I1.hok ea
    obtain ⟨od, J, _⟩ := O.look
    obtain ⟨rest, hrec⟩ := T.m.rec_
    have I2 := I1.tok (s1.toks + 1)
    have hc : (PySem.W.clsIn X.K C).isSome = true := by
      obtain ⟨cd, hc, _⟩ := PySem.W.any_some T.c.hd
      rw [hc]; rfl
    refine PySem.W.get_bind I1.kIn J (PySem.W.plainGet_of (T.c.get f)).1 (PySem.W.findObj_data hc T.m.at_ T.m.get T.m.tak) (PySem.W.plainGet_of (T.c.get f)).2 (wpAny_call (PySem.W.prop_get (s := { s1 with toks := s1.toks + 1 }) I1.kIn hrec ?_))
    refine codeAny_mono (Fn X.A.in1 X.stack { s1 with toks := s1.toks + 1 } H1 [.ref a] [.ref a] Q (WE W0 σ) hr.in1 I2.env0.in1 (.cons rfl .nil) q) fun r s' hq => ?_
    cases r with
    | error er =>
      obtain ⟨_, _, _, _, _, z⟩ := (show L2.CX X.prog X.w X.stack H1 { s1 with toks := s1.toks + 1 } (fun _ _ _ => False) er s' from hq)
      exfalso
      simp only [and_false] at z
    | ok fl =>
      cases fl with
      | ret u =>
        obtain ⟨v, H', I3, rv, q3⟩ := I2.after hq
        show wpAny _ _ (handedOut u) _ _ _
        rw [PySem.W.handedOut_of (handed_of rv)]
        exact wpAny_pure ⟨v, H', I3, rv, q3⟩
      | _ => exact False.elim hq
  · refine ho ρ s σ H _ R (k.bd fun u s1 ρ1 H1 v _ x1 R1 r1 h1 => ?_)
    obtain ⟨u', c1, h2⟩ := ct_con R1 r1.e h1
    cases u' with
    | obj cc us =>
      obtain ⟨a, C', dx, vs, rfl, mc, eh, r⟩ := c1.obj
      dsimp only at h2
      obtain ⟨e1, h3⟩ := Ok.when h2
      have ec := of_decide_eq_true e1
      subst ec
      have mc : X.mg cc = some (.ref C') := mc
      rw [show X.mg cc = some (.ref C) from T.mc] at mc
      cases mc
      exact ⟨a, dx, vs, rfl, eh, callU_run (W := W0) R1 (.cons r1 .nil) (noE_ok h3)⟩
    | _ => exact h2.elim

/-! ### o[i], o an instance -/
structure DunOf (G : Gx) (cn m : Str) (C f : Addr) : Prop where
  mc : G.mg cn = some (.ref C)
  at_ : PySem.W.findIn G.K (.ref C) m = some (some (.ref f))
  fn : PySem.W.isFn G.K (.ref f) = true
  fi : PySem.W.fnIn G.K f = true
def dunM (cn : Str) (mo mi : M U) (g : F) : M U := bd mo fun u => bd mi fun i => bd (ct u) fun u' => match u' with
  | .obj c _ => when (decide (c = cn)) (callF g [u, i])
  | _ => stk
theorem se_item {cn : Str} {k : Nat} {C f : Addr} {g : F} (T : DunOf (gx X) cn "__getitem__" C f) (Fn : FnU X.prog X.w (gx X) X.base k f g) (tk : Takes X W) (hr : Room (k + 1) X.A) (ha : SE X W a ma) (hb : SE X W b mb)
    (hsl : ∀ x i, subscripted b true (.ref x) i = runValue (.builtin "lifetime.subscript" ⟨[.ref x, i], []⟩) := by intro _ _; with_unfolding_all rfl) : SE X W (.Subscript a b pos) (dunM cn ma mb g) := by
  obtain ⟨ta, pa, ha⟩ := ha
  obtain ⟨tb, pb, hb⟩ := hb
  refine ⟨fun σ H Q => ta σ H fun x H1 => tb σ H1 fun y H2 => ∃ a dx fs, x = .ref a ∧ H2 a = some (.ins C dx fs) ∧ spR (gx X) g [x, y] H2 Q (WE W σ), ⟨fun pins s σ H Q I k => ?_⟩, fun ρ s σ H Q R k => ?_⟩
  · refine Subscript_ (thn (pa.run pins s σ H _ I k) fun v s1 ⟨x, H1, I1, r1, q1⟩ => thn (pb.run pins s1 σ H1 _ I1 q1) fun u s2 ⟨y, H2, I2, r2, a, dx, fs, ex, ea, q⟩ => ?_)
    subst ex
    obtain rfl : v = Value.ref a := r1
    obtain ⟨mA, O, _, _, _, _⟩ := ins_get I2.hok ea
    obtain ⟨od, J, _⟩ := O.look
    obtain ⟨m, hF⟩ := I2.fr
    exact PySem.W.sub_K hF I2.ok.mod.kin J T.at_ T.fi T.fn (runU (us := [.ref a, u]) (vs := [.ref a, y]) Fn tk hr.in1 I2.env0.in1 I2 (.cons rfl (.cons r2 .nil)) q) (hsl _ _)
  · refine ha ρ s σ H _ R (k.bd fun u s1 ρ1 H1 v _ x1 R1 r1 h1 => ?_)
    refine hb ρ1 s1 σ H1 _ R1 (h1.bd fun i s2 ρ2 H2 y _ x2 R2 r2 h2 => ?_)
    obtain ⟨u', c1, h3⟩ := ct_con R2 (r1.up x2.toUp).e h2
    cases u' with
    | obj cc us =>
      obtain ⟨a, C', dx, vs, rfl, mc, eh, r⟩ := c1.obj
      dsimp only at h3
      obtain ⟨e1, h4⟩ := Ok.when h3
      have ec := of_decide_eq_true e1
      subst ec
      have mc : X.mg cc = some (.ref C') := mc
      rw [show X.mg cc = some (.ref C) from T.mc] at mc
      cases mc
      exact ⟨a, dx, vs, rfl, eh, callU_run R2 (.cons (r1.up x2.toUp) (.cons r2 .nil)) h4⟩
    | _ => exact h3.elim
end
end Mi

/-! Mini O: items of dicts too, slices, isinstance, chains. -/
namespace Mi
open PySem PySem.Spec PyProof.Rows L2
section
variable {X : Cx} {W : WX} {e a b c o tg : Expr} {es rest : List Expr} {m ma mb mc : M U} {ms : M (List U)} {mt mt2 : M Bool} {pos : Pos}
/-! ### a[b] -/
def ixV : U → U → M U
  | .dK kvs, k => fun s => match keyU k with
    | some k => (match getG kvs k with
      | some u => .ok u s
      | none => .stuck)
    | none => .stuck
  | .kl us, .int k => ofO (atI us k)
  | x, k => ixU x k
theorem ox_ix (hu : X.A.units + 64 < cLine) : IxR X (rC X W ixV) := by
  intro value slice pins s σ H x y v u Q I rx ry ⟨ρ, s', σ', p, q, R, c1, c2, h⟩ hs
  unfold ixV at h
  split at h
  · rename_i kvs
    cases e1 : keyU q with
    | none => simp only [e1] at h; exact h.elim
    | some k =>
      simp only [e1] at h
      cases e2 : getG kvs k with
      | none => simp only [e2] at h; exact h.elim
      | some w =>
        simp only [e2] at h
        obtain ⟨d, vs, rfl, ed, r⟩ := c1.dK
        have ev := con_key c2 e1
        subst ev
        cases rx
        obtain ⟨z, e3, rz⟩ := r.get.1 w e2
        have g : DGet H d (kV k) (some z) := .inl ⟨vs, k, ed, rfl, e3.symm⟩
        exact tail_any (dict_typeIs I g) PySem.F.slot_dict_getitem.lookup (d_getItem (by omega) I g ry fun w' s1 I1 rw' => ⟨z, H, I1, rw', h ρ H z Ext.refl R rz⟩) hs
  · cases c2.int
    obtain ⟨p, vs, rfl, q, r⟩ := c1.kl
    obtain ⟨w, e1, h⟩ := h.ofO
    obtain ⟨z, e2, rz⟩ := r.atI e1
    exact ix_list value slice pins s σ H _ _ v u Q I rx ry ⟨_, vs, _, z, rfl, rfl, q, e2, h.ret R rz⟩ hs
  · exact ix_seq value slice pins s σ H _ _ v u Q I rx ry (bears_ix (W := W) ρ s' σ' H _ _ _ _ Q R c1 c2 h) hs
theorem se_ixV (hu : X.A.units + 64 < cLine) (ha : SE0 X W a ma) (hb : SE0 X W b mb) (hs : PlainIx b := by intro _ _; rfl) : SE X W (.Subscript a b pos) (bin ixV ma mb) := by
  obtain ⟨ta, pa, ha⟩ := ha
  obtain ⟨tb, pb, hb⟩ := hb
  exact ⟨_, pe_ix (ox_ix (W := W) hu) pa pb hs, fun ρ s σ H Q R h => bin_run bears_C ha hb R h⟩

/-! ### a[b] = e -/
def setI (u : U) (k : U) : U → Option U
  | .dK kvs => match keyU k with
    | some q => if kvs.length < sizeLine then some (.dK (putG kvs q u)) else none
    | none => none
  | .lst us => match k with
    | .int i => (ixN us.length i).map fun j => .lst (us.set j u)
    | _ => none
  | _ => none
def rSetA : V → V → V → Hp → (Hp → Prop) → Prop := fun o i v H Q => rSetL o i v H Q ∨ rSetD o i v H Q
theorem set_any (hu : X.A.units + 64 < cLine) : PSet X rSetA := by
  intro pins s σ H o i v ov iv u Q I ro ri rv h
  rcases h with h | h
  · exact set_list pins s σ H o i v ov iv u Q I ro ri rv h
  · exact set_dict (by omega) pins s σ H o i v ov iv u Q I ro ri rv h
theorem sg_at (hu : X.A.units + 64 < cLine) (ho : SE0 X W o ma) (hi : SE X W b mb) (hq : ∀ v, assign (.Subscript o b pos) X.env v = (do
      let x ← holding [v] (eval o X.env)
      let y ← holding [v, x] (eval b X.env)
      standAt pos
      holding [v, x, y] (setItem x y v)
      release [v, x, y] []) := by intro _; rfl) : SG X W (.Subscript o b pos) (fun u => bd ma fun x => bd mb fun k => upC x (setI u k)) := by
  obtain ⟨t, p, ho⟩ := ho
  obtain ⟨ti, q, hi⟩ := hi
  refine ⟨_, pg_sub p q (set_any hu) hq, fun ρ s σ H u v Q R r h => ?_⟩
  refine ho ρ s σ H _ R (OkG.bdE h fun x s1 ρ1 H1 y _ x1 R1 r1 h1 => ?_)
  refine hi ρ1 s1 σ H1 _ R1 (OkG.bdE h1 fun k s2 ρ2 H2 z _ x2 R2 r2 h2 => ?_)
  have ru := (r.up x1.toUp).up x2.toUp
  rcases upC_ok (f := setI u k) R2 (r1.up x2.toUp) with ⟨ad, cc, c', s', rfl, w, nz, ow, ef, es, hw⟩ | es
  · rw [es] at h2
    cases cc with
    | lst us =>
      cases k with
      | int i =>
        obtain ⟨j, e1, e2⟩ := Option.map_eq_some_iff.mp (show (ixN us.length i).map (fun j => U.lst (us.set j u)) = some c' from ef)
        subst e2
        obtain ⟨vs, ea, rs⟩ := ow
        cases r2
        refine .inl ⟨ad, vs, i, j, rfl, rfl, ea, by rw [← rs.length]; exact e1, ?_⟩
        obtain ⟨x3, R3⟩ := hw (.lst (vs.set j v)) (upd_ow w (rs.set j ru))
        exact h2 _ σ _ x3 R3
      | _ => cases ef
    | dK us =>
      have ef : (match keyU k with | some q => if us.length < sizeLine then some (U.dK (putG us q u)) else none | none => none) = some c' := ef
      cases ek : keyU k with
      | none => rw [ek] at ef; cases ef
      | some q =>
        rw [ek] at ef
        dsimp only at ef
        by_cases l : us.length < sizeLine
        · rw [if_pos l] at ef
          cases ef
          obtain ⟨vs, ea, rs⟩ := ow
          have ev := keyU_ok r2 ek
          subst ev
          have up2 : Up (gx X) ρ2 H2 ρ2 (upd H2 ad (.dK (putK vs q v))) := put_up w
          obtain ⟨x3, R3⟩ := hw (.dK (putK vs q v)) ⟨_, upd_same, (rs.put ru).up up2⟩
          exact .inr ⟨ad, _, rfl, .inl ⟨vs, q, ea, rfl, by rw [← rs.length]; exact l, rfl⟩, h2 _ σ _ x3 R3⟩
        · rw [if_neg l] at ef; cases ef
    | _ => cases ef
  · rw [es] at h2; exact h2.elim

/-! ### {} -/
theorem sen_dnew : SEN X W (.Dict [] [] pos) (ret (.dK [])) := ⟨_, pe_dnewK, fun ρ s σ H Q R k p hp => k.lay R hp fun U e => ⟨[], e, .nil⟩⟩

/-! ### a[lo:hi] -/
def SO (X : Cx) (W : WX) (e : Option Expr) (m : M (Option Int)) : Prop :=
  ∃ t, PO X e t ∧ ∀ ρ s σ H Q, Rl (gx X) ρ s σ H → Ok X W (fun _ _ (u : Option Int) v => u = v) ρ σ H (m s) Q → t σ H Q
theorem so_none : SO X W none (ret none) := ⟨_, po_none, fun ρ s σ H Q R h => h.ret R rfl⟩
def asO : U → M (Option Int)
  | .int i => ret (some i)
  | _ => stk
theorem so_some (h : SE X W e m) : SO X W (some e) (bd m asO) := by
  obtain ⟨t, p, h⟩ := h
  refine ⟨_, po_some p, fun ρ s σ H Q R k => ?_⟩
  refine h ρ s σ H _ R (k.bd fun u s1 ρ1 H1 v _ x1 R1 r1 h1 => ?_)
  cases r1 with
  | int => exact ⟨_, rfl, h1.ret R1 rfl⟩
  | _ => exact h1.elim
def cutU (us : List U) (lo hi : Option Int) : List U := (us.drop (HT.sIx us.length 0 lo)).take (HT.sIx us.length us.length hi - HT.sIx us.length 0 lo)
theorem cut_rep {G : Gx} {ρ : Rho} {H : Hp} {us : List U} {vs : List V} (r : Reps G ρ H us vs) (lo hi : Option Int) : Reps G ρ H (cutU us lo hi) (cutV vs lo hi) := by
  unfold cutU cutV
  rw [r.length]
  exact (r.drop _).take _
def slcU (lo hi : Option Int) : U → M U
  | .str z => when (decide (z.length ≤ sizeLine)) (ret (.str (cutS z lo hi)))
  | .lst us => ret (.lst (cutU us lo hi))
  | .kl us => ret (.lst (cutU us lo hi))
  | .tup us => ret (.tup (cutU us lo hi))
  | _ => stk
def rSlAny (K : PySem.W.Frag) : V → Option Int → Option Int → Hp → VK → Prop := fun x lo hi H Q => rSlL K x lo hi H Q ∨ (rSlA K x lo hi H Q ∨ rSlS x lo hi H Q)
theorem sl_any : SlR X (rSlAny X.K) := sl_list.or (sl_tupA.or sl_str)
theorem cutU_whole {us : List U} {lo hi : Option Int} (h : HT.sIx us.length 0 lo = 0 ∧ HT.sIx us.length us.length hi = us.length) : cutU us lo hi = us := by
  unfold cutU
  rw [h.1, h.2, List.drop_zero, Nat.sub_zero, List.take_length]
theorem se_slice {lo hi : Option Expr} {ml mh : M (Option Int)} {p2 : Pos} (he : SE0 X W e m) (hl : SO X W lo ml) (hh : SO X W hi mh) : SE X W (.Subscript e (.Slice lo hi none p2) pos) (bd m fun u => bd ml fun l => bd mh fun h => bd (ct u) (slcU l h)) := by
  obtain ⟨t, p, he⟩ := he
  obtain ⟨tl, pl, hl⟩ := hl
  obtain ⟨th, ph, hh⟩ := hh
  refine ⟨_, pe_slice sl_any p pl ph, fun ρ s σ H Q R k => ?_⟩
  refine he ρ s σ H _ R (k.bd fun u s1 ρ1 H1 v _ x1 R1 r1 h1 => ?_)
  refine hl ρ1 s1 σ H1 _ R1 (h1.bd fun l s2 ρ2 H2 l' _ x2 R2 r2 h2 => ?_)
  refine hh ρ2 s2 σ H2 _ R2 (h2.bd fun hx s3 ρ3 H3 h' _ x3 R3 r3 h3 => ?_)
  subst r2 r3
  obtain ⟨u', c1, h4⟩ := ct_con R3 ((r1.up x2.toUp).up x3.toUp) h3
  cases u' with
  | str z =>
    cases c1.str
    obtain ⟨e1, h5⟩ := Ok.when h4
    exact .inr (.inr ⟨z, rfl, of_decide_eq_true e1, h5.ret R3 .str⟩)
  | lst us =>
    obtain ⟨a, vs, rfl, q, r⟩ := c1.lst
    exact .inl ⟨a, vs, rfl, .of q, fun z hz => new_lst h4 R3 (cut_rep r _ _) z hz⟩
  | kl us =>
    obtain ⟨a, vs, rfl, q, r⟩ := c1.kl
    exact .inl ⟨a, vs, rfl, q, fun z hz => new_lst h4 R3 (cut_rep r _ _) z hz⟩
  | tup us =>
    obtain ⟨a, vs, rfl, q, r⟩ := id c1.tup
    refine .inr (.inl ⟨a, vs, rfl, q, fun w => ?_, fun _ z hz => new_tup h4 R3 (cut_rep r _ _) z hz⟩)
    have t1 := c1.resolve_right (fun ⟨_, _, z⟩ => z)
    rw [← r.length] at w
    have h4 : OkV X W ρ3 σ H3 (ret (.tup (cutU us l hx)) s3) Q := h4
    rw [cutU_whole w] at h4
    exact h4.ret R3 t1
  | _ => exact h4.elim

/-! ### chains -/
def chainM (f g : U → U → M U) (ma mb mc : M U) : M U := bd ma fun x => bd mb fun y => bd (bd (ct x) fun x' => bd (ct y) fun y' => f x' y') fun z => match z with
  | .bl k => bif k then (bd mc fun w => bd (ct y) fun y' => bd (ct w) fun w' => g y' w') else ret (.bl false)
  | _ => stk
theorem se_chain {op op' : CmpOp} {f g : U → U → M U} (ho : OpR X (compareOp op) (rC X W f)) (ho' : OpR X (compareOp op') (rC X W g)) (ha : SE0 X W a ma) (hb : SE0 X W b mb) (hc : SE0 X W c mc) (hm : lastMarks [op, op'] [b, c] = false := by with_unfolding_all rfl) :
    SE X W (.Compare a [op, op'] [b, c] pos) (chainM f g ma mb mc) := by
  obtain ⟨ta, pa, ha⟩ := ha
  obtain ⟨tb, pb, hb⟩ := hb
  obtain ⟨tc, pc, hc⟩ := hc
  refine ⟨_, pe_chain ho ho' pa pb pc hm, fun ρ s σ H Q R k => ?_⟩
  refine ha ρ s σ H _ R (k.bd fun x s1 ρ1 H1 v _ x1 R1 r1 h1 => ?_)
  refine hb ρ1 s1 σ H1 _ R1 (h1.bd fun y s2 ρ2 H2 w _ x2 R2 r2 h2 => ?_)
  have h3 := Ok.bd (R1 := fun ρ' H' u v => Rep (gx X) ρ' H' u v) (P := fun z H3 => ∃ k, z = V.bl k ∧ (if k = true then tc σ H3 fun w' H4 => rC X W g w w' H4 Q else Q (.bl false) H3)) h2 fun z s3 ρ3 H3 v3 _ x3 R3 r3 h3 => by
    cases r3 with
    | @bl k =>
      refine ⟨k, rfl, ?_⟩
      cases k with
      | false => rw [if_neg Bool.false_ne_true]; exact h3.ret R3 .bl
      | true =>
        rw [if_pos rfl]
        refine hc ρ3 s3 σ H3 _ R3 (Ok.bd h3 fun q s4 ρ4 H4 v4 _ x4 R4 r4 h4 => ?_)
        obtain ⟨y', cy, h5⟩ := ct_con R4 ((r2.up x3.toUp).up x4.toUp) h4
        obtain ⟨q', cq, h6⟩ := ct_con R4 r4 h5
        exact ⟨ρ4, s4, σ, y', q', R4, cy, cq, h6⟩
    | _ => exact h3.elim
  obtain ⟨x', cx, h4⟩ := ct_con R2 (r1.up x2.toUp) h3
  obtain ⟨y', cy, h5⟩ := ct_con R2 r2 h4
  exact ⟨ρ2, s2, σ, x', y', R2, cx, cy, h5⟩

/-! ### isinstance -/
inductive Tag where
  | b (n : String) | c (n : Str)
def tagU : U → Option Tag
  | .non => some (.b "NoneType")
  | .bl _ => some (.b "bool")
  | .int _ => some (.b "int")
  | .str _ => some (.b "str")
  | .tup _ => some (.b "tuple")
  | .lst _ => some (.b "list")
  | .dK _ => some (.b "dict")
  | .obj c _ => some (.c c)
  | _ => none
/-- kt t c: the answer of isinstance for a value of the kind t and the class c -/
structure KT (G : Gx) (kt : Tag → U → Option Bool) : Prop where
  cls : ∀ c C, (∃ u b, kt (.c c) u = some b) → G.mg c = some (.ref C) → Cls G.K C ∧ PySem.W.findIn G.K (.ref C) "__class__" = some (some (.builtin "object.__class__")) ∧ PySem.W.specialIn G.K (.builtin "object.__class__") "__get__" = some (some (.builtin "getset_descriptor.__get__")) ∧
    PySem.W.takesIn G.K (.builtin "object.__class__") = some true ∧ PySem.W.mroIn G.K C (.type "object") = some true
  bb : ∀ n m b, kt (.b n) (.ty m) = some b → PySem.W.kitOne G.K (.type n) (.type m) = some b
  bc : ∀ n c C b, kt (.b n) (.cls c) = some b → G.mg c = some (.ref C) → PySem.W.kitOne G.K (.type n) (.ref C) = some b
  cb : ∀ c C m b, kt (.c c) (.ty m) = some b → G.mg c = some (.ref C) → PySem.W.kitOne G.K (.ref C) (.type m) = some b
  cc : ∀ c C d D b, kt (.c c) (.cls d) = some b → G.mg c = some (.ref C) → G.mg d = some (.ref D) → PySem.W.kitOne G.K (.ref C) (.ref D) = some b

/-- classes among the contents -/
inductive ClsU (G : Gx) : U → V → Value → Prop where
  | ty (n : String) : ClsU G (.ty n) (.ty n) (.type n)
  | cls {c : Str} {C : Addr} (m : G.mg c = some (.ref C)) : ClsU G (.cls c) (.ref C) (.ref C)
theorem cls_of {G : Gx} {ρ : Rho} {H : Hp} {kt : Tag → U → Option Bool} {g : Tag} {c : U} {v : V} {b : Bool} (h : Con G ρ H c v) (ho : ∀ u, kt g u ≠ none → (∃ n, u = .ty n) ∨ ∃ n, u = .cls n) (e : kt g c = some b) : ∃ u, ClsU G c v u := by
  rcases ho c (by rw [e]; intro z; cases z) with ⟨n, rfl⟩ | ⟨n, rfl⟩
  · rcases h with h | ⟨_, _, q⟩
    · cases h; exact ⟨_, .ty n⟩
    · exact q.elim
  · rcases h with h | ⟨_, _, q⟩
    · cases h with
      | cls m => exact ⟨_, .cls m⟩
    · exact q.elim
theorem ClsU.v {G : Gx} {c : U} {v : V} {u : Value} (h : ClsU G c v u) : ClsV v u := by
  cases h with
  | ty n => exact .ty n
  | cls m => exact .own _
theorem tag_ok {kt : Tag → U → Option Bool} (T : KT (gx X) kt) {ρ : Rho} {H : Hp} {x : U} {v : V} {g : Tag} (c : Con (gx X) ρ H x v) (e : tagU x = some g) (hk : ∃ u b, kt g u = some b) : ∃ t, TyX X.K H v t ∧ ∀ {cu : U} {cv : V} {cw : Value} {b : Bool}, ClsU (gx X) cu cv cw → kt g cu = some b → PySem.W.kitOne X.K t cw = some b := by
  have fin : ∀ {n : String}, g = .b n → ∀ {cu : U} {cv : V} {cw : Value} {b : Bool}, ClsU (gx X) cu cv cw → kt g cu = some b → PySem.W.kitOne X.K (.type n) cw = some b := fun {n} eg {cu cv cw b} k kb => by
    subst eg
    cases k with
    | ty m => exact T.bb _ _ _ kb
    | cls m => exact T.bc _ _ _ _ kb m
  cases x with
  | non => cases e; cases c.non; exact ⟨_, .base .non, fin rfl⟩
  | bl y => cases e; cases c.bl; exact ⟨_, .base (.bl y), fin rfl⟩
  | int y => cases e; cases c.int; exact ⟨_, .base (.int y), fin rfl⟩
  | str y => cases e; cases c.str; exact ⟨_, .base (.str y), fin rfl⟩
  | lst us => cases e; obtain ⟨a, vs, rfl, q, r⟩ := c.lst; exact ⟨_, .base (.lst q), fin rfl⟩
  | tup us =>
    cases e
    obtain ⟨a, vs, rfl, q, r⟩ := c.tupR
    rcases q with q | ⟨_, o, its, n, hl, hc, _⟩
    · exact ⟨_, .base (.tup q.1), fin rfl⟩
    · exact ⟨_, .kTuple hl hc, fin rfl⟩
  | dK us =>
    cases e
    obtain ⟨a, vs, rfl, q, r⟩ := c.dK
    rcases q with q | ⟨o, q⟩
    · exact ⟨_, .base (.dK q), fin rfl⟩
    · exact ⟨_, .fDict q, fin rfl⟩
  | obj cn us =>
    cases e
    obtain ⟨a, C, dx, vs, rfl, mc, eh, r⟩ := c.obj
    obtain ⟨c1, c2, c3, c4, c5⟩ := T.cls cn C hk mc
    refine ⟨_, .base (.ins eh c1 c2 c3 c4 c5), fun {cu cv cw b} k kb => ?_⟩
    cases k with
    | ty m => exact T.cb _ _ _ _ kb mc
    | cls m => exact T.cc _ _ _ _ _ kb mc m
  | _ => cases e
/-- .. of several classes -/
def isAny (k : U → Option Bool) : List U → Option Bool
  | [] => some false
  | c :: cs => match k c with
    | some true => (match isAny k cs with
      | some _ => some true
      | none => none)
    | some false => isAny k cs
    | none => none
def isiO (k : U → Option Bool) : U → Option Bool
  | .tup cs => match cs with
    | [] => none
    | c :: cs => isAny k (c :: cs)
  | c => k c
def isiU (kt : Tag → U → Option Bool) : List U → M U
  | [x, c] => fun s => match tagU x with
    | none => .stuck
    | some g => match isiO (kt g) c with
      | some b => .ok (.bl b) s
      | none => .stuck
  | _ => stk
theorem any_ok {k : U → Option Bool} {G : Gx} {ρ : Rho} {H : Hp} {t : Value} (ho : ∀ u, k u ≠ none → (∃ n, u = .ty n) ∨ ∃ n, u = .cls n) (hk : ∀ {cu : U} {cv : V} {cw : Value} {b : Bool}, ClsU G cu cv cw → k cu = some b → PySem.W.kitOne G.K t cw = some b) :
    ∀ {cs : List U} {vs : List V} {b : Bool}, Reps G ρ H cs vs → isAny k cs = some b → ∃ us, Paired ClsV vs us ∧ PySem.W.kitAny G.K t us = some b
  | [], _, _, .nil, e => by cases e; exact ⟨[], .nil, rfl⟩
  | c :: cs, _, b, .cons h r, e => by
    have e : (match k c with | some true => (match isAny k cs with | some _ => some true | none => none) | some false => isAny k cs | none => none) = some b := e
    cases q : k c with
    | none => rw [q] at e; cases e
    | some d =>
      rw [q] at e
      obtain ⟨u, hu⟩ := cls_of (g := .b "") (kt := fun _ => k) (.inl h) ho q
      have k1 := hk hu q
      cases d with
      | true =>
        dsimp only at e
        cases q2 : isAny k cs with
        | none => rw [q2] at e; cases e
        | some k2 =>
          rw [q2] at e
          cases e
          obtain ⟨us, p1, p2⟩ := any_ok ho hk r q2
          exact ⟨u :: us, .cons hu.v p1, kitAny_cons k1 (fun z => by cases z) (fun _ => rfl)⟩
      | false =>
        obtain ⟨us, p1, p2⟩ := any_ok ho hk r e
        exact ⟨u :: us, .cons hu.v p1, kitAny_cons k1 (fun _ => p2) (fun z => by cases z)⟩
theorem cb_isi {kt : Tag → U → Option Bool} (T : KT (gx X) kt) (ho : ∀ g u, kt g u ≠ none → (∃ n, u = .ty n) ∨ ∃ n, u = .cls n) : CallR X (.builtin "isinstance") (rCA X W (isiU kt)) := by
  intro pins s σ H xs us Q I r ⟨ρ, s', σ', ws, R, c, h⟩
  unfold isiU at h
  split at h
  · rename_i x cc
    cases c with
    | cons c1 c2 =>
      cases c2 with
      | cons c2 c3 =>
        cases c3
        cases eg : tagU x with
        | none => simp only [eg] at h; exact h.elim
        | some g =>
          simp only [eg] at h
          cases e : isiO (kt g) cc with
          | none => simp only [e] at h; exact h.elim
          | some b =>
            simp only [e] at h
            by_cases ht : ∃ l, cc = .tup l
            · obtain ⟨l, rfl⟩ := ht
              cases l with
              | nil => cases e
              | cons c0 cs0 =>
                have e : isAny (kt g) (c0 :: cs0) = some b := e
                have hex : ∃ u b, kt g u = some b := by
                  cases q : kt g c0 with
                  | some d => exact ⟨c0, d, q⟩
                  | none => unfold isAny at e; rw [q] at e; cases e
                obtain ⟨t, ty, hk⟩ := tag_ok T c1 eg hex
                obtain ⟨a, vs, rfl, q, rs⟩ := c2.tupR
                obtain ⟨us', p1, p2⟩ := any_ok (ho g) hk rs e
                rcases q with q | ⟨_, ob, its, n, hl, hc, hd, hz, hv⟩
                · exact call_isiT pins s σ H _ us Q I r ⟨_, a, vs, t, us', b, rfl, q.1, p1, ty, p2, h ρ H _ Ext.refl R .bl⟩
                · obtain ⟨ocls, odict, odata, oslots⟩ := ob
                  have hc : ocls = .type "tuple" := hc
                  have hd : odata = .seq its n := hd
                  subst hc hd
                  have ee := ClsV.all p1 hv
                  refine call_isiK pins s σ H _ us Q I r ⟨_, a, odict, us', n, oslots, t, b, rfl, ?_, ty, p2, h ρ H _ Ext.refl R .bl⟩
                  rw [← ee, Array.toArray_toList]
                  exact hl
            · have e : kt g cc = some b := by
                unfold isiO at e
                split at e
                · rename_i l; exact absurd ⟨l, rfl⟩ ht
                · exact e
              obtain ⟨t, ty, hk⟩ := tag_ok T c1 eg ⟨_, _, e⟩
              obtain ⟨u, hu⟩ := cls_of (g := g) (kt := kt) c2 (ho g) e
              exact call_isi pins s σ H _ us Q I r ⟨_, _, t, u, b, rfl, hu.v, ty, hk hu e, h ρ H _ Ext.refl R .bl⟩
  · exact h.elim
/-- built-in types alone -/
def ktB : Tag → U → Option Bool
  | .b n, .ty m => kitB n m
  | _, _ => none
theorem ktB_ok {G : Gx} : KT G ktB := ⟨fun c C h => (by obtain ⟨u, b, e⟩ := h; cases e), fun n m b e => kit_ty e, fun n c C b e => (by cases e), fun c C m b e => (by cases e), fun c C d D b e => (by cases e)⟩
theorem ktB_ty : ∀ g u, ktB g u ≠ none → (∃ n, u = .ty n) ∨ ∃ n, u = .cls n := fun g u h => by
  cases g <;> cases u <;> first | exact .inl ⟨_, rfl⟩ | exact absurd rfl h
end
end Mi

/-! Mini P: names by scopes; the head's facts. -/
namespace Mi
open PySem PySem.Spec PyProof.Rows L2
theorem vis_of {sc : Scope} {x : Str} (h : (match sc.names.lookup x with | some NameKind.local => true | some NameKind.cell => true | some NameKind.free => true | _ => false) = true) : Vis sc x := by
  unfold Vis
  split at h
  · rename_i e; exact .inl e
  · rename_i e; exact .inr (.inl e)
  · rename_i e; exact .inr (.inr e)
  · cases h
theorem loc_of {sc : Scope} {x : Str} (h : (match sc.names.lookup x with | some NameKind.local => true | some NameKind.cell => true | _ => false) = true) : L2.Loc sc x := by
  unfold L2.Loc
  split at h
  · rename_i e; exact .inl e
  · rename_i e; exact .inr e
  · cases h
/-- a block's scope within one -/
def rlb (sc out : Scope) : Scope := { sc with names := sc.names.map fun (n, k) => if (k == NameKind.free && out.kind == ScopeKind.function && out.names.lookup n == some NameKind.cell) then (n, NameKind.cell) else (n, k) }
theorem takes_W0 {X : Cx} : Takes X W0 := fun _ _ x => by
  obtain ⟨_, _, _, _, _, _, _, _, _, _, _, _, _, _, _, _, z⟩ := x
  exact z.elim
theorem _root_.L2.Room.u65 {k : Nat} {A : Around} (r : Room k A) : A.units + 65 < cLine := by have := r.un; omega
section
variable {X : Cx} {W : WX} {e : Expr} {es : List Expr} {pos : Pos}
theorem se_ty {x : Str} {n : String} (hg : Gl X x) (hm : X.mg x = none) (hv : bootBuiltins x = some (.type n)) (hn : x ≠ "__name__" := by decide) (hd : (x == ("__debug__" : Str)) = false := by decide) : SE X W (.Name x pos) (ret (.ty n)) :=
  ⟨_, pe_bltn hg hm hv (v := .ty n) rfl hn hd, fun ρ s σ H _ R h => h.ret R .ty⟩
theorem se_cls {x : Str} {C : Addr} (hg : Gl X x) (hm : X.mg x = some (.ref C)) (hd : (x == ("__debug__" : Str)) = false := by decide) : SE X W (.Name x pos) (ret (.cls x)) :=
  ⟨_, pe_glob hg hm (v := .ref C) rfl hd, fun ρ s σ H _ R h => h.ret R (.cls hm)⟩
theorem sgs_nil' : SGs X W [] gnil := by
  refine ⟨_, pgs_nil, fun ρ s σ H us vs Q R r h => ?_⟩
  cases r with
  | nil => exact ⟨rfl, h ρ σ H Ext.refl R⟩
  | cons => exact h.elim
/-- a constant tuple of the module -/
theorem tupR_K {G : Gx} {ρ : Rho} {H : Hp} {a : Addr} {vs : List V} (h : SqT G.K (fun _ => none) a vs) (hn : ∀ x y, vs ≠ [V.str x, V.str y] := by intro _ _ h; cases h) : TupR G ρ H a vs := by
  rcases h with (h | ⟨_, h⟩) | h
  · cases h
  · cases h
  · exact .inr ⟨hn, h⟩
theorem se_ctup {x : Str} {C : Addr} {us : List U} {vs : List V} (hg : Gl X x) (hm : X.mg x = some (.ref C)) (h : SqT X.K (fun _ => none) C vs) (hu : ∀ ρ H, Reps (gx X) ρ H us vs) (hd : (x == ("__debug__" : Str)) = false := by decide) (hn : ∀ x y, vs ≠ [V.str x, V.str y] := by intro _ _ h; cases h) : SE X W (.Name x pos) (ret (.tup us)) :=
  ⟨_, pe_glob hg hm (v := .ref C) rfl hd, fun ρ s σ H _ R k => k.ret R (.tup (tupR_K (G := gx X) h hn) (hu _ _))⟩
theorem se_cstr {x : Str} {z : Str} (hg : Gl X x) (hm : ∃ t, X.mg x = some (.str z t)) (hd : (x == ("__debug__" : Str)) = false := by decide) : SE X W (.Name x pos) (ret (.str z)) := by
  obtain ⟨t, hm⟩ := hm
  exact ⟨_, pe_glob hg hm (v := .str z) ⟨t, rfl⟩ hd, fun ρ s σ H _ R k => k.ret R .str⟩
theorem se_cint {x : Str} {z : Int} (hg : Gl X x) (hm : ∃ t, X.mg x = some (.int z t)) (hd : (x == ("__debug__" : Str)) = false := by decide) : SE X W (.Name x pos) (ret (.int z)) := by
  obtain ⟨t, hm⟩ := hm
  exact ⟨_, pe_glob hg hm (v := .int z) ⟨t, rfl⟩ hd, fun ρ s σ H _ R k => k.ret R .int⟩
end
theorem stuckU {P : Program} {w : World} {G : Gx} {base : Heap} {k : Nat} {f : Addr} {g : F} (h : ∀ us st, g us st = .stuck) : FnU P w G base k f g := fun A outer s H us vs Q E hr e0 r hs => by
  obtain ⟨ρ, st, uu, R, rr, hs⟩ := hs
  rw [h] at hs; exact hs.elim
/-- the i-th statement of a class's body -/
def clsAt : Stmt → Nat → Stmt
  | .ClassDef _ _ _ body _ _ _ _ _ _ _, j => body.getD j (.Pass ⟨0, 0, 0, 0⟩)
  | _, _ => .Pass ⟨0, 0, 0, 0⟩
end Mi

/-! Mini Q: the head's facts by a hook of our own. -/
namespace Mi
open PySem PySem.Spec PyProof.Rows L2
/-- the names' objects, and what they reach in n steps -/
def stepsU (g : Addr → Option Obj) : Nat → List Addr → List Addr
  | 0, as => as
  | n + 1, as => stepsU g n (He.growD g as)
/-- an empty table of code objects -/
def isTab0 (g : Addr → Option Obj) (a : Addr) : Bool := match g a with
  | some ⟨.none, none, .fields ps, sl⟩ => ps.isEmpty && sl.isEmpty
  | _ => false
def asU (g : Addr → Option Obj) (ns : List Str) (n : Nat) : List Addr := PySem.cStatics :: mainGlobals :: (stepsU g n ((ns.map (He.ga (He.frG g [mainGlobals]))).eraseDups)).filter fun a => !isTab0 g a
abbrev FnW2 : Type := Option (Str × Str × Arguments × FuncBody × Scope × Addr × List Str × Addr)
def fnV (K : PySem.W.Frag) (a : Addr) : FnW2 := match K.lookup a with
  | some ⟨_, _, .func fd, _⟩ => some (fd.name, fd.qualname, fd.params, fd.body, fd.scope, fd.globals, fd.closure.map (·.1), fd.builtins)
  | _ => none
/-- one def: its address, name, qualified name, parameters, body, scope, defaults -/
structure DefU where
  ad : PySem.W.Frag → Addr
  name : Str
  qual : Str
  params : Arguments
  body : List Stmt
  scope : Scope
  dfl : List He.Dv
  kwd : List (Str × He.Dv)
  cl : List Str
def DefU.val (d : DefU) : FnW2 := some (d.name, d.qual, d.params, .stmts d.body, d.scope, mainGlobals, d.cl, builtinsNs)
def DefU.dvs (K : PySem.W.Frag) (d : DefU) : List V := d.dfl.map (He.Dv.v K)
def DefU.kws (K : PySem.W.Frag) (d : DefU) : List (Str × V) := d.kwd.map fun q => (q.1, q.2.v K)
def DefU.good (K : PySem.W.Frag) (d : DefU) : Bool := PySem.W.keepIn K (.ref (d.ad K)) && (match K.lookup (d.ad K) with
  | some ⟨_, _, .func fd, _⟩ => PySem.W.codeIn K fd.code d.qual && (He.dflB K fd.defaults (d.dvs K) && He.kwdB K fd.kwdefaults (d.kws K))
  | _ => false)
theorem DefU.fn {K : PySem.W.Frag} {d : DefU} (e : fnV K (d.ad K) = d.val) (c : d.good K = true) (hc : d.cl = []) : ∃ fd, FunD K d.name d.qual d.params d.body d.scope (d.dvs K) (d.kws K) (d.ad K) fd := by
  obtain ⟨keep, c⟩ := Bool.and_eq_true_iff.mp c
  unfold fnV at e
  cases look : K.lookup (d.ad K) with
  | none => rw [look] at c; cases c
  | some ob =>
    obtain ⟨o1, o2, dat, o4⟩ := ob
    rw [look] at c e
    cases dat with
    | func fd =>
      obtain ⟨x1, x2, x3, x4, x5, x6, x7, x8, x9, x10, x11, x12, x13, x14, x15⟩ := fd
      have e : (some (x1, x2, x3, x4, x5, x6, x7.map (·.1), x15) : FnW2) = some (d.name, d.qual, d.params, .stmts d.body, d.scope, mainGlobals, d.cl, builtinsNs) := e
      rw [hc] at e
      simp only [Option.some.injEq, Prod.mk.injEq, List.map_eq_nil_iff] at e
      obtain ⟨a1, a2, a3, a4, a5, a6, a7, a8⟩ := e
      subst a1 a2 a3 a4 a5 a6 a7 a8
      have c : (PySem.W.codeIn K x13 d.qual && (He.dflB K x8 (d.dvs K) && He.kwdB K x9 (d.kws K))) = true := c
      simp only [Bool.and_eq_true] at c
      exact ⟨_, ⟨o1, o2, x8, x9, x10, x11, x12, x13, x14, o4, rfl, look, c.1, He.dflB_ok c.2.1, He.kwdB_ok c.2.2⟩, keep⟩
    | _ => cases c
/-- .. with captured names -/
theorem DefU.fnC {K : PySem.W.Frag} {d : DefU} (e : fnV K (d.ad K) = d.val) (c : d.good K = true) : ∃ oc od x7 x8 x9 x10 x11 x12 x13 x14 osl, K.lookup (d.ad K) = some ⟨oc, od, .func (PySem.W.fnX d.name d.qual d.params d.body d.scope x7 x8 x9 x10 x11 x12 x13 x14), osl⟩ ∧ x7.map (·.1) = d.cl ∧ PySem.W.codeIn K x13 d.qual = true ∧ He.dflB K x8 (d.dvs K) = true := by
  obtain ⟨keep, c⟩ := Bool.and_eq_true_iff.mp c
  unfold fnV at e
  cases look : K.lookup (d.ad K) with
  | none => rw [look] at c; cases c
  | some ob =>
    obtain ⟨o1, o2, dat, o4⟩ := ob
    rw [look] at c e
    cases dat with
    | func fd =>
      obtain ⟨x1, x2, x3, x4, x5, x6, x7, x8, x9, x10, x11, x12, x13, x14, x15⟩ := fd
      have e : (some (x1, x2, x3, x4, x5, x6, x7.map (·.1), x15) : FnW2) = some (d.name, d.qual, d.params, .stmts d.body, d.scope, mainGlobals, d.cl, builtinsNs) := e
      simp only [Option.some.injEq, Prod.mk.injEq] at e
      obtain ⟨a1, a2, a3, a4, a5, a6, a7, a8⟩ := e
      subst a1 a2 a3 a4 a5 a6 a8
      have c : (PySem.W.codeIn K x13 d.qual && (He.dflB K x8 (d.dvs K) && He.kwdB K x9 (d.kws K))) = true := c
      simp only [Bool.and_eq_true] at c
      exact ⟨_, _, _, _, _, _, _, _, _, _, _, rfl, a7, c.1, c.2.1⟩
    | _ => cases c
abbrev AlU : Type := Bool × List FnW2
def obsK (own : List (PySem.W.Frag → Bool)) (fn : List DefU) (K : PySem.W.Frag) : AlU := ((own.all fun f => f K) && fn.all fun d => d.good K, fn.map fun d => fnV K (d.ad K))
def valU (fn : List DefU) : AlU := (true, fn.map DefU.val)
def SaysU (own : List (PySem.W.Frag → Bool)) (fn : List DefU) (K : PySem.W.Frag) : Prop := obsK own fn K = valU fn
def obsU (ns : List Str) (n : Nat) (own : List (PySem.W.Frag → Bool)) (fn : List DefU) (g : Addr → Option Obj) : AlU := obsK own fn (He.frG g (asU g ns n))
def hookU (ns : List Str) (n : Nat) (own : List (PySem.W.Frag → Bool)) (fn : List DefU) : PySem.W.Hook where
  α := AlU
  obs := fun s => obsU ns n own fn s.heap.get?
  val := fun _ => valU fn
  says := fun _ h => ∃ K : PySem.W.Frag, K.In h ∧ SaysU own fn K
  of := fun _ _ e => ⟨_, He.frG_in, e⟩
  keeps := fun _ _ _ ⟨K, hK, c⟩ k => ⟨K, PySem.W.Frag.In.keeps hK k, c⟩
theorem obsU_eq {ns : List Str} {n : Nat} {own : List (PySem.W.Frag → Bool)} {fn : List DefU} {g : Addr → Option Obj} {s : Shared} (h : ∀ a, g a = s.heap.get? a) : obsU ns n own fn g = (hookU ns n own fn).obs s := by
  have e : g = s.heap.get? := funext h
  rw [e] <;> rfl
section
variable {own : List (PySem.W.Frag → Bool)} {fn : List DefU} {K : PySem.W.Frag}
theorem SaysU.fact (c : SaysU own fn K) (i : Nat) {f : PySem.W.Frag → Bool} (h : own[i]? = some f := by rfl) : f K = true := by
  have z := congrArg (fun z : AlU => z.1) c
  have z : ((own.all fun f => f K) && fn.all fun d => d.good K) = true := z
  rw [Bool.and_eq_true] at z
  exact List.all_eq_true.mp z.1 f (List.mem_of_getElem? h)
theorem SaysU.def_ (c : SaysU own fn K) (i : Nat) {d : DefU} (h : fn[i]? = some d := by rfl) (hc : d.cl = [] := by rfl) : ∃ fd, FunD K d.name d.qual d.params d.body d.scope (d.dvs K) (d.kws K) (d.ad K) fd := by
  have z := congrArg (fun z : AlU => z.1) c
  have z : ((own.all fun f => f K) && fn.all fun d => d.good K) = true := z
  rw [Bool.and_eq_true] at z
  have y : fn.map (fun d => fnV K (d.ad K)) = fn.map DefU.val := congrArg (fun z : AlU => z.2) c
  have y := congrArg (fun l : List FnW2 => l[i]?) y
  simp only [List.getElem?_map, h, Option.map_some, Option.some.injEq] at y
  exact DefU.fn y (List.all_eq_true.mp z.2 d (List.mem_of_getElem? h)) hc
theorem SaysU.defC (c : SaysU own fn K) (i : Nat) {d : DefU} (h : fn[i]? = some d := by rfl) : fnV K (d.ad K) = d.val ∧ d.good K = true := by
  have z := congrArg (fun z : AlU => z.1) c
  have z : ((own.all fun f => f K) && fn.all fun d => d.good K) = true := z
  rw [Bool.and_eq_true] at z
  have y : fn.map (fun d => fnV K (d.ad K)) = fn.map DefU.val := congrArg (fun z : AlU => z.2) c
  have y := congrArg (fun l : List FnW2 => l[i]?) y
  simp only [List.getElem?_map, h, Option.map_some, Option.some.injEq] at y
  exact ⟨y, List.all_eq_true.mp z.2 d (List.mem_of_getElem? h)⟩
end
/-- a dunder method of a class -/
def dunB (C m : Str) (K : PySem.W.Frag) : Bool := He.eqO (PySem.W.findIn K (.ref (He.ga K C)) m) (some (some (.ref (He.ma K (He.ga K C) m)))) && (PySem.W.isFn K (.ref (He.ma K (He.ga K C) m)) && PySem.W.fnIn K (He.ma K (He.ga K C) m))
theorem dunB_ok {K : PySem.W.Frag} {mg : Str → Option Value} {C m : Str} (h : dunB C m K = true) (g : mg C = some (.ref (He.ga K C))) : DunOf ⟨K, mg⟩ C m (He.ga K C) (He.ma K (He.ga K C) m) := by
  unfold dunB at h
  simp only [Bool.and_eq_true] at h
  exact ⟨g, He.eqO_ok h.1, h.2.1, h.2.2⟩
/-- an empty tuple among a def's defaults -/
def tup0B (p : Str × Option Str) (i : Nat) (K : PySem.W.Frag) : Bool := match K.lookup (He.dflAt p i K) with
  | some ⟨.type c, _, .seq its _, _⟩ => decide (c = "tuple") && decide (its.toList.length = 0)
  | _ => false
theorem tup0B_ok {K : PySem.W.Frag} {p : Str × Option Str} {i : Nat} (h : tup0B p i K = true) : SqT K (fun _ => none) (He.dflAt p i K) [] := by
  unfold tup0B at h
  cases q : K.lookup (He.dflAt p i K) with
  | none => rw [q] at h; cases h
  | some o =>
    obtain ⟨oc, od, dt, osl⟩ := o
    rw [q] at h
    cases oc with
    | type c =>
      cases dt with
      | seq its n =>
        have h : (decide (c = "tuple") && decide (its.toList.length = 0)) = true := h
        simp only [Bool.and_eq_true, decide_eq_true_eq] at h
        have e : its.toList = [] := List.length_eq_zero_iff.mp h.2
        refine .inr ⟨_, its, n, q, congrArg Value.type h.1, rfl, ?_, by rw [e]; exact .nil⟩
        rw [← Array.length_toList, e]; exact Nat.zero_le _
      | _ => cases h
    | _ => cases dt <;> cases h
/-- nothing is let out -/
theorem FnOk.quiet {P : Program} {w : World} {K : PySem.W.Frag} {mg : Str → Option Value} {base : Heap} {k : Nat} {f : Addr} {fd : FuncData} {ps : List Str} {sp : Sp} (F : FnOk P w K mg base (L2.CX P w) k f fd ps sp) :
    FnOk P w K mg base CX0 k f fd ps (fun vs H Q _ => sp vs H Q fun _ _ _ => False) :=
  ⟨fun vs H Q E h => F.len _ _ _ _ h, fun A outer s H args us vs Q E hr e0 hb r h => codeAny_mono (F.run A outer s H args us vs Q _ hr e0 hb r h) fun r s' hq => by
    cases r with
    | error e =>
      obtain ⟨_, _, _, _, _, z⟩ := (show L2.CX P w outer H s (fun _ _ _ => False) e s' from hq)
      exfalso
      simp only [and_false] at z
    | ok fl => cases fl <;> exact hq⟩
/-- the script by value -/
theorem script_rep {G : Gx} {H : Hp} {a : Addr} {ns : List Int} (h : SqL G.K H a (ns.map V.int)) : Rl G ⟨fun _ => none, fun _ => none, none, fun _ => False⟩ ⟨[], []⟩ [] H ∧ Reps G ⟨fun _ => none, fun _ => none, none, fun _ => False⟩ H [.kl (ns.map U.int)] [.ref a] := by
  have nw : ∀ b, ¬ (⟨fun _ => none, fun _ => none, none, fun _ => False⟩ : Rho).wr b := fun b w => by
    rcases w with ⟨_, w⟩ | ⟨_, w⟩ | w | w
    · cases w
    · cases w
    · cases w
    · exact w
  refine ⟨⟨rfl, fun i u e => by simp at e, fun i u e => by simp at e, fun i a e => (nomatch e), fun j u e => by simp at e, fun j a e => (nomatch e), fun o o' b h _ => ?_, fun b w => (nw b w).elim, rfl⟩, .cons (.kl ?_ (ints_rep ns)) .nil⟩
  · exact (nw b h.wr).elim
  · rcases h with h | h
    · exact .inl ⟨h, nw a⟩
    · exact .inr h
/-- the law's promise, from its mirror -/
theorem law_sp {G : Gx} {m : F} {ns : List Int} {H : Hp} {a : Addr} {st : List U} (h : SqL G.K H a (ns.map V.int)) (e : m [.kl (ns.map U.int)] [] = .ok (.bl true) st) : spF G 1 m [.ref a] H (fun v _ => v = .bl true) fun _ _ _ => False := by
  obtain ⟨R, r⟩ := script_rep h
  refine ⟨rfl, _, [], _, R, r, ?_⟩
  rw [e]
  intro ρ' H' v x R' rv
  cases rv; rfl
end Mi

/-! Mini R: computing with mirrors. -/
namespace Mi
open PySem PySem.Spec PyProof.Rows L2
theorem whileM_get {c : M Bool} {b : Sm} {s : MS} {r : Res MS Fl} (h : whileM c b s = r) (hr : r ≠ .stuck) : ∃ k, whileN c b k s = r := by
  unfold whileM at h
  split at h
  · exact ⟨_, h⟩
  · exact absurd h.symm hr
theorem whileM_step {c : M Bool} {b : Sm} {s s1 s2 : MS} {r : Res MS Fl} (h1 : c s = .ok true s1) (h2 : b s1 = .ok .nx s2) (h : whileM c b s2 = r) (hr : r ≠ .stuck) : whileM c b s = r := by
  obtain ⟨k, hk⟩ := whileM_get h hr
  refine whileM_eq (k := k + 1) ?_ hr
  unfold whileN bd
  rw [h1]
  dsimp only [cond_true]
  rw [h2]
  exact hk
theorem whileM_stop {c : M Bool} {b : Sm} {s s1 : MS} (h1 : c s = .ok false s1) : whileM c b s = .ok .nx s1 := by
  refine whileM_eq (k := 1) ?_ (fun z => by cases z)
  unfold whileN bd
  rw [h1]
  rfl
theorem bd_ok {α β : Type} {m : M α} {f : α → M β} {s s1 : MS} {a : α} (h : m s = .ok a s1) : bd m f s = f a s1 := by unfold bd; rw [h]
theorem seq_nx {m n : Sm} {s s1 : MS} (h : m s = .ok .nx s1) : seq m n s = n s1 := by unfold seq; rw [h]
theorem seq_rt {m n : Sm} {s s1 : MS} {u : U} (h : m s = .ok (.rt u) s1) : seq m n s = .ok (.rt u) s1 := by unfold seq; rw [h]
theorem iff_t {t : M Bool} {a b : Sm} {s s1 : MS} (h : t s = .ok true s1) : iff_ t a b s = a s1 := by unfold iff_; rw [bd_ok h]; rfl
theorem iff_f {t : M Bool} {a b : Sm} {s s1 : MS} (h : t s = .ok false s1) : iff_ t a b s = b s1 := by unfold iff_; rw [bd_ok h]; rfl
theorem mcons_ok {m : M U} {ms : M (List U)} {s s1 s2 : MS} {u : U} {us : List U} (h : m s = .ok u s1) (h2 : ms s1 = .ok us s2) : mcons m ms s = .ok (u :: us) s2 := by unfold mcons; rw [bd_ok h, bd_ok h2]; rfl
theorem callB_ok {g : List U → M U} {ms : M (List U)} {s s1 : MS} {us : List U} (h : ms s = .ok us s1) : callB g ms s = bd (cts us) g s1 := by unfold callB; rw [bd_ok h]
theorem two62 : (2 : Int) ^ 62 = 4611686018427387904 := by decide
theorem rng1_nat (n : Nat) (h : n ≤ 1000000) : rng1 [.int (n : Int)] = ret ((List.range n).map fun (i : Nat) => .int (0 + i)) := by
  funext s
  have a : -(2 ^ 62 : Int) ≤ (n : Int) := by rw [two62]; omega
  have b : (n : Int) < 2 ^ 62 := by rw [two62]; omega
  simp only [rng1, when, a, b, decide_true, Bool.and_self, if_true, Int.toNat_natCast]
theorem callF_ok {g : F} {us : List U} {s : MS} {u : U} {st : List U} (h : g us s.st = .ok u st) : callF g us s = .ok u { s with st := st } := by unfold callF; rw [h]
theorem mkF_rt {nl : Nat} {m : Sm} {us st : List U} {u : U} {s : MS} (h : m ⟨us.map Sl.val ++ List.replicate (nl - us.length) Sl.no, st⟩ = .ok (.rt u) s) : mkF nl m us st = .ok u s.st := by unfold mkF; rw [h]
theorem mkF_nx {nl : Nat} {m : Sm} {us st : List U} {s : MS} (h : m ⟨us.map Sl.val ++ List.replicate (nl - us.length) Sl.no, st⟩ = .ok .nx s) : mkF nl m us st = .ok .non s.st := by unfold mkF; rw [h]
theorem compL_map {vs : List Nat} {g : U → M Unit} {m : M U} {e0 : List Sl} {st : List U} {f : U → U} : ∀ {xs acc : List U}, (∀ x ∈ xs, ∃ s2 s3 : MS, g x ⟨wipeE e0 vs, st⟩ = .ok () s2 ∧ m s2 = .ok (f x) s3 ∧ wipeE s3.env vs = wipeE e0 vs ∧ s3.st = st) → acc.length + xs.length ≤ sizeLine →
    compL vs g (ret true) m acc xs ⟨wipeE e0 vs, st⟩ = .ok (acc ++ xs.map f) ⟨wipeE e0 vs, st⟩
  | [], acc, _, _ => by unfold compL; simp [ret]
  | x :: xs, acc, h, hl => by
    obtain ⟨s2, s3, h1, h2, h3, h4⟩ := h x (List.mem_cons_self ..)
    unfold compL bd
    rw [h1]
    dsimp only [ret, bd, cond_true]
    rw [h2]
    dsimp only
    unfold when
    have hz : acc.length < sizeLine := by simp only [List.length_cons] at hl; omega
    rw [if_pos (decide_eq_true hz)]
    show compL vs g (ret true) m (acc ++ [f x]) xs ⟨wipeE s3.env vs, s3.st⟩ = _
    rw [h3, h4, compL_map (fun y hy => h y (List.mem_cons_of_mem _ hy)) (by simp only [List.length_cons, List.length_append, List.length_nil] at hl ⊢; omega)]
    simp
theorem lcM_map {vs : List Nat} {mi : M (List U)} {g : U → M Unit} {m : M U} {s s1 : MS} {xs : List U} {f : U → U} (h1 : mi s = .ok xs s1) (hn : noOwn s1.env vs = true)
    (h : ∀ x ∈ xs, ∃ s2 s3 : MS, g x ⟨wipeE s1.env vs, s1.st⟩ = .ok () s2 ∧ m s2 = .ok (f x) s3 ∧ wipeE s3.env vs = wipeE s1.env vs ∧ s3.st = s1.st) (hl : xs.length ≤ sizeLine) :
    lcM vs mi g (ret true) m s = .ok (.lst (xs.map f)) ⟨backE s1.env (wipeE s1.env vs) vs, s1.st⟩ := by
  unfold lcM
  rw [bd_ok h1]
  unfold when
  rw [if_pos hn]
  show finL vs s1.env (compL vs g (ret true) m [] xs ⟨wipeE s1.env vs, s1.st⟩) = _
  rw [compL_map h (by simpa using hl)]
  rfl
theorem compL_zip {vs : List Nat} {g : U → M Unit} {m : M U} {e0 : List Sl} {st : List U} : ∀ {ps : List (U × U)} {acc : List U}, (∀ p ∈ ps, ∃ s2 s3 : MS, g p.1 ⟨wipeE e0 vs, st⟩ = .ok () s2 ∧ m s2 = .ok p.2 s3 ∧ wipeE s3.env vs = wipeE e0 vs ∧ s3.st = st) → acc.length + ps.length ≤ sizeLine →
    compL vs g (ret true) m acc (ps.map (·.1)) ⟨wipeE e0 vs, st⟩ = .ok (acc ++ ps.map (·.2)) ⟨wipeE e0 vs, st⟩
  | [], acc, _, _ => by simp [compL, ret]
  | p :: ps, acc, h, hl => by
    obtain ⟨s2, s3, h1, h2, h3, h4⟩ := h p (List.mem_cons_self ..)
    rw [List.map_cons]
    unfold compL bd
    rw [h1]
    dsimp only [ret, bd, cond_true]
    rw [h2]
    dsimp only
    unfold when
    have hz : acc.length < sizeLine := by simp only [List.length_cons] at hl; omega
    rw [if_pos (decide_eq_true hz)]
    show compL vs g (ret true) m (acc ++ [p.2]) (ps.map (·.1)) ⟨wipeE s3.env vs, s3.st⟩ = _
    rw [h3, h4, compL_zip (fun y hy => h y (List.mem_cons_of_mem _ hy)) (by simp only [List.length_cons, List.length_append, List.length_nil] at hl ⊢; omega)]
    simp
theorem lcM_zip {vs : List Nat} {mi : M (List U)} {g : U → M Unit} {m : M U} {s s1 : MS} {ps : List (U × U)} (h1 : mi s = .ok (ps.map (·.1)) s1) (hn : noOwn s1.env vs = true)
    (h : ∀ p ∈ ps, ∃ s2 s3 : MS, g p.1 ⟨wipeE s1.env vs, s1.st⟩ = .ok () s2 ∧ m s2 = .ok p.2 s3 ∧ wipeE s3.env vs = wipeE s1.env vs ∧ s3.st = s1.st) (hl : ps.length ≤ sizeLine) :
    lcM vs mi g (ret true) m s = .ok (.lst (ps.map (·.2))) ⟨backE s1.env (wipeE s1.env vs) vs, s1.st⟩ := by
  unfold lcM
  rw [bd_ok h1]
  unfold when
  rw [if_pos hn]
  show finL vs s1.env (compL vs g (ret true) m [] (ps.map (·.1)) ⟨wipeE s1.env vs, s1.st⟩) = _
  rw [compL_zip h (by simpa using hl)]
  rfl
theorem forL_nil {g : U → M Unit} {b : Sm} {s : MS} : forL g b [] s = .ok .nx s := rfl
theorem forL_step {g : U → M Unit} {b : Sm} {x : U} {xs : List U} {s s1 s2 : MS} (h1 : g x s = .ok () s1) (h2 : b s1 = .ok .nx s2) : forL g b (x :: xs) s = forL g b xs s2 := by
  show bd (g x) (fun _ => fun s => match b s with
    | .ok .nx s' => forL g b xs s'
    | .ok .ct s' => forL g b xs s'
    | .ok .bk s' => .ok .nx s'
    | r => r) s = _
  rw [bd_ok h1]
  rw [h2]
theorem shaped_int (a : Int) : SeqAt.shaped (.int a) = true := by simp [SeqAt.shaped, PyData.canLay0, PyData.depth]
theorem eqU_int (neg : Bool) (a b : Int) : eqU neg (.int a) (.int b) = ret (.bl (xor neg (decide (a = b)))) := by
  have e : PyData.eqv (.int a) (.int b) = decide (a = b) := by simp [PyData.eqv]; rfl
  funext s
  simp only [eqU, dat, shaped_int, e, when, Bool.and_self, if_true]
theorem eqU_bl (neg : Bool) (a b : Bool) : eqU neg (.bl a) (.bl b) = ret (.bl (xor neg (a == b))) := by
  have e : PyData.eqv (.bool a) (.bool b) = (a == b) := by simp [PyData.eqv]
  have z : ∀ c : Bool, SeqAt.shaped (.bool c) = true := fun c => by simp [SeqAt.shaped, PyData.canLay0, PyData.depth]
  funext s
  simp only [eqU, dat, z, e, when, Bool.and_self, if_true]
theorem eqU_q (neg : Bool) (a b c d : Int) : eqU neg (.tup [.int a, .int b]) (.tup [.int c, .int d]) = ret (.bl (xor neg (decide (a = c ∧ b = d)))) := by
  have e : PyData.eqv (.tuple [.int a, .int b]) (.tuple [.int c, .int d]) = decide (a = c ∧ b = d) := by
    simp [PyData.eqv, PyData.eqvAll, Bool.beq_eq_decide_eq]
  have z : ∀ a b : Int, SeqAt.shaped (.tuple [.int a, .int b]) = true := fun c d => by simp [SeqAt.shaped, PyData.canLay0, PyData.canLayAll0, PyData.depth, PyData.depthAll]
  funext s
  simp only [eqU, dat, dats, Option.map_some, z, e, when, Bool.and_self, if_true]
theorem isi1 {x : U} {n m : String} {r : Bool} (h1 : tagU x = some (.b n)) (h2 : kitB n m = some r) (hm : True := trivial) : isiU ktB [x, .ty m] = ret (.bl r) := by
  funext s
  simp only [isiU, h1, isiO, ktB, h2]
  rfl
theorem isi2 {x : U} {n m1 m2 : String} {r1 r2 : Bool} (h1 : tagU x = some (.b n)) (h2 : kitB n m1 = some r1) (h3 : kitB n m2 = some r2) : isiU ktB [x, .tup [.ty m1, .ty m2]] = ret (.bl (r1 || r2)) := by
  funext s
  cases r1 <;> cases r2 <;> (simp only [isiU, h1, isiO, isAny, ktB, h2, h3]; rfl)
theorem isi_int_int (i : Int) : isiU ktB [.int i, .ty "int"] = ret (.bl true) := isi1 (n := "int") rfl (by decide +kernel)
theorem isi_int_list (i : Int) : isiU ktB [.int i, .ty "list"] = ret (.bl false) := isi1 (n := "int") rfl (by decide +kernel)
theorem isi_int_tuple (i : Int) : isiU ktB [.int i, .ty "tuple"] = ret (.bl false) := isi1 (n := "int") rfl (by decide +kernel)
theorem isi_int_bool (i : Int) : isiU ktB [.int i, .ty "bool"] = ret (.bl false) := isi1 (n := "int") rfl (by decide +kernel)
theorem isi_int_lt (i : Int) : isiU ktB [.int i, .tup [.ty "list", .ty "tuple"]] = ret (.bl false) := isi2 (n := "int") (r1 := false) (r2 := false) rfl (by decide +kernel) (by decide +kernel)
theorem isi_tup_int (i : List U) : isiU ktB [.tup i, .ty "int"] = ret (.bl false) := isi1 (n := "tuple") rfl (by decide +kernel)
theorem isi_tup_list (i : List U) : isiU ktB [.tup i, .ty "list"] = ret (.bl false) := isi1 (n := "tuple") rfl (by decide +kernel)
theorem isi_tup_tuple (i : List U) : isiU ktB [.tup i, .ty "tuple"] = ret (.bl true) := isi1 (n := "tuple") rfl (by decide +kernel)
theorem isi_tup_bool (i : List U) : isiU ktB [.tup i, .ty "bool"] = ret (.bl false) := isi1 (n := "tuple") rfl (by decide +kernel)
theorem isi_tup_lt (i : List U) : isiU ktB [.tup i, .tup [.ty "list", .ty "tuple"]] = ret (.bl true) := isi2 (n := "tuple") (r1 := false) (r2 := true) rfl (by decide +kernel) (by decide +kernel)
theorem isi_lst_int (i : List U) : isiU ktB [.lst i, .ty "int"] = ret (.bl false) := isi1 (n := "list") rfl (by decide +kernel)
theorem isi_lst_list (i : List U) : isiU ktB [.lst i, .ty "list"] = ret (.bl true) := isi1 (n := "list") rfl (by decide +kernel)
theorem isi_lst_tuple (i : List U) : isiU ktB [.lst i, .ty "tuple"] = ret (.bl false) := isi1 (n := "list") rfl (by decide +kernel)
theorem isi_lst_bool (i : List U) : isiU ktB [.lst i, .ty "bool"] = ret (.bl false) := isi1 (n := "list") rfl (by decide +kernel)
theorem isi_lst_lt (i : List U) : isiU ktB [.lst i, .tup [.ty "list", .ty "tuple"]] = ret (.bl true) := isi2 (n := "list") (r1 := true) (r2 := false) rfl (by decide +kernel) (by decide +kernel)
theorem isi_bl_int (i : Bool) : isiU ktB [.bl i, .ty "int"] = ret (.bl true) := isi1 (n := "bool") rfl (by decide +kernel)
theorem isi_bl_list (i : Bool) : isiU ktB [.bl i, .ty "list"] = ret (.bl false) := isi1 (n := "bool") rfl (by decide +kernel)
theorem isi_bl_tuple (i : Bool) : isiU ktB [.bl i, .ty "tuple"] = ret (.bl false) := isi1 (n := "bool") rfl (by decide +kernel)
theorem isi_bl_bool (i : Bool) : isiU ktB [.bl i, .ty "bool"] = ret (.bl true) := isi1 (n := "bool") rfl (by decide +kernel)
theorem isi_bl_lt (i : Bool) : isiU ktB [.bl i, .tup [.ty "list", .ty "tuple"]] = ret (.bl false) := isi2 (n := "bool") (r1 := false) (r2 := false) rfl (by decide +kernel) (by decide +kernel)
theorem ixV_tup (us : List U) (k : Int) : ixV (.tup us) (.int k) = ofO (L2.atI us k) := rfl
theorem ixV_lst (us : List U) (k : Int) : ixV (.lst us) (.int k) = ofO (L2.atI us k) := rfl
theorem ixV_kl (us : List U) (k : Int) : ixV (.kl us) (.int k) = ofO (L2.atI us k) := rfl
theorem atI_nat {α : Type} (us : List α) (k : Nat) : L2.atI us (k : Int) = us[k]? := by
  unfold L2.atI L2.ixN
  rw [if_pos (by omega)]
  by_cases h : k < us.length
  · rw [if_pos (show (k : Int) < (us.length : Int) by omega)]; simp
  · rw [if_neg (show ¬ (k : Int) < (us.length : Int) by omega)]
    rw [List.getElem?_eq_none (by omega)]
    rfl
theorem atI_0 {α : Type} (us : List α) : L2.atI us 0 = us[0]? := atI_nat us 0
theorem atI_1 {α : Type} (us : List α) : L2.atI us 1 = us[1]? := atI_nat us 1
theorem atI_2 {α : Type} (us : List α) : L2.atI us 2 = us[2]? := atI_nat us 2
theorem atI_3 {α : Type} (us : List α) : L2.atI us 3 = us[3]? := atI_nat us 3
theorem setI_lst (u : U) (us : List U) (k : Nat) (h : k < us.length) : setI u (.int (k : Int)) (.lst us) = some (.lst (us.set k u)) := by
  unfold setI L2.ixN
  dsimp only
  rw [if_pos (by omega), if_pos (show (k : Int) < (us.length : Int) by omega)]
  simp
end Mi

/-! Mini S: mirrors evaluated by simp, each word applied to a state. -/
namespace Mi
open PySem PySem.Spec PyProof.Rows L2
section
variable {α β : Type}
def bindR (r : Res MS α) (f : α → M β) : Res MS β := match r with
  | .ok a s => f a s
  | .err x s => .err x s
  | .stuck => .stuck
@[simp] theorem bindR_ok (a : α) (s : MS) (f : α → M β) : bindR (.ok a s) f = f a s := (rfl)
@[simp] theorem bindR_err (x : U) (s : MS) (f : α → M β) : bindR (.err x s) f = .err x s := (rfl)
@[simp] theorem bd_s (m : M α) (f : α → M β) (s : MS) : bd m f s = bindR (m s) f := (rfl)
@[simp] theorem ret_s (a : α) (s : MS) : (ret a : M α) s = .ok a s := (rfl)
@[simp] theorem raise_s (x : U) (s : MS) : (raise x : M α) s = .err x s := (rfl)
@[simp] theorem stk_s (s : MS) : (stk : M α) s = .stuck := (rfl)
theorem when_s (b : Bool) (m : M α) (s : MS) : when b m s = if b = true then m s else .stuck := (rfl)
@[simp] theorem when_t (m : M α) (s : MS) : when true m s = m s := (rfl)
@[simp] theorem when_d {p : Prop} [Decidable p] (h : p) (m : M α) (s : MS) : when (decide p) m s = m s := by unfold when; rw [decide_eq_true h]; rfl
@[simp] theorem when_and {a b : Bool} (m : M α) (s : MS) : when (a && b) m s = when a (when b m) s := by cases a <;> cases b <;> rfl
@[simp] theorem rd_val {e : List Sl} {st : List U} {i : Nat} {u : U} (h : e[i]? = some (.val u)) : rd i ⟨e, st⟩ = .ok u ⟨e, st⟩ := by unfold rd; simp only [h]
@[simp] theorem rd_own {e : List Sl} {st : List U} {i : Nat} {u : U} (h : e[i]? = some (.own u)) : rd i ⟨e, st⟩ = .ok (.slot i) ⟨e, st⟩ := by unfold rd; simp only [h]
@[simp] theorem rv_val {e : List Sl} {st : List U} {i : Nat} {u : U} (h : e[i]? = some (.val u)) : rv i ⟨e, st⟩ = .ok u ⟨e, st⟩ := by unfold rv; simp only [h]
@[simp] theorem rv_own {e : List Sl} {st : List U} {i : Nat} {u : U} (h : e[i]? = some (.own u)) : rv i ⟨e, st⟩ = .ok u ⟨e.set i (.val u), st⟩ := by unfold rv; simp only [h]
def isV : U → Bool
  | .slot _ => false
  | .ref _ => false
  | _ => true
theorem ct_v {u : U} (h : isV u = true) (s : MS) : ct u s = .ok u s := by cases u <;> first | rfl | cases h
@[simp] theorem ct_non (s : MS) : ct .non s = .ok .non s := (rfl)
@[simp] theorem ct_bl (b : Bool) (s : MS) : ct (.bl b) s = .ok (.bl b) s := (rfl)
@[simp] theorem ct_int (b : Int) (s : MS) : ct (.int b) s = .ok (.int b) s := (rfl)
@[simp] theorem ct_str (b : Str) (s : MS) : ct (.str b) s = .ok (.str b) s := (rfl)
@[simp] theorem ct_tup (b : List U) (s : MS) : ct (.tup b) s = .ok (.tup b) s := (rfl)
@[simp] theorem ct_lst (b : List U) (s : MS) : ct (.lst b) s = .ok (.lst b) s := (rfl)
@[simp] theorem ct_kl (b : List U) (s : MS) : ct (.kl b) s = .ok (.kl b) s := (rfl)
@[simp] theorem ct_dK (b : List (Key × U)) (s : MS) : ct (.dK b) s = .ok (.dK b) s := (rfl)
@[simp] theorem ct_dT (b : List (List Key × U)) (s : MS) : ct (.dT b) s = .ok (.dT b) s := (rfl)
@[simp] theorem ct_obj (c : Str) (b : List (Str × U)) (s : MS) : ct (.obj c b) s = .ok (.obj c b) s := (rfl)
@[simp] theorem ct_exc (c : Str) (b : List (Str × U)) (s : MS) : ct (.exc c b) s = .ok (.exc c b) s := (rfl)
@[simp] theorem ct_cls (c : Str) (s : MS) : ct (.cls c) s = .ok (.cls c) s := (rfl)
@[simp] theorem ct_ty (c : String) (s : MS) : ct (.ty c) s = .ok (.ty c) s := (rfl)
@[simp] theorem ct_ref {e : List Sl} {st : List U} {j : Nat} {u : U} (h : st[j]? = some u) : ct (.ref j) ⟨e, st⟩ = .ok u ⟨e, st⟩ := by unfold ct cont; simp only [h]
@[simp] theorem ct_slot {e : List Sl} {st : List U} {j : Nat} {u : U} (h : e[j]? = some (.own u)) : ct (.slot j) ⟨e, st⟩ = .ok u ⟨e, st⟩ := by unfold ct cont; simp only [h]
@[simp] theorem bin_s (op : U → U → M U) (ma mb : M U) (s : MS) : bin op ma mb s = bindR (ma s) fun x => bd mb fun y => bd (ct x) fun x' => bd (ct y) fun y' => op x' y' := (rfl)
@[simp] theorem un_s (op : U → M U) (ma : M U) (s : MS) : un op ma s = bindR (ma s) fun x => bd (ct x) fun x' => op x' := (rfl)
@[simp] theorem asB_bl (b : Bool) : asB (.bl b) = ret b := (rfl)
@[simp] theorem mcons_s (m : M U) (ms : M (List U)) (s : MS) : mcons m ms s = bindR (m s) fun u => bd ms fun us => ret (u :: us) := (rfl)
@[simp] theorem cts_nil : cts [] = ret [] := (rfl)
@[simp] theorem cts_cons (u : U) (us : List U) : cts (u :: us) = mcons (ct u) (cts us) := (rfl)
@[simp] theorem callB_s (g : List U → M U) (ms : M (List U)) (s : MS) : callB g ms s = bindR (ms s) fun us => bd (cts us) g := (rfl)
def callR (s : MS) (r : Res (List U) U) : Res MS U := match r with
  | .ok u st => .ok u ⟨s.env, st⟩
  | .err x st => .err x ⟨s.env, st⟩
  | .stuck => .stuck
@[simp] theorem callR_ok (e : List Sl) (st0 : List U) (u : U) (st : List U) : callR ⟨e, st0⟩ (.ok u st) = .ok u ⟨e, st⟩ := (rfl)
@[simp] theorem callR_err (e : List Sl) (st0 : List U) (u : U) (st : List U) : callR ⟨e, st0⟩ (.err u st) = .err u ⟨e, st⟩ := (rfl)
@[simp] theorem callF_s (f : F) (us : List U) (e : List Sl) (st : List U) : callF f us ⟨e, st⟩ = callR ⟨e, st⟩ (f us st) := by
  unfold callF callR
  cases f us st <;> rfl
@[simp] theorem arF_s (n : Nat) (du : List U) (m : F) (us st : List U) (h : us.length = n) : arF n du m us st = m (us ++ du) st := by unfold arF; rw [if_pos h]
@[simp] theorem starF_s (n : Nat) (m : F) (us st : List U) (h : n ≤ us.length ∧ us.length ≤ sizeLine) : starF n m us st = m (us.take n ++ [.tup (us.drop n)]) st := by unfold starF; rw [if_pos h]
def seqR (r : Res MS Fl) (n : Sm) : Res MS Fl := match r with
  | .ok .nx s => n s
  | r => r
@[simp] theorem seqR_nx (s : MS) (n : Sm) : seqR (.ok .nx s) n = n s := (rfl)
@[simp] theorem seqR_rt (u : U) (s : MS) (n : Sm) : seqR (.ok (.rt u) s) n = .ok (.rt u) s := (rfl)
@[simp] theorem seqR_bk (s : MS) (n : Sm) : seqR (.ok .bk s) n = .ok .bk s := (rfl)
@[simp] theorem seqR_ct (s : MS) (n : Sm) : seqR (.ok .ct s) n = .ok .ct s := (rfl)
@[simp] theorem seqR_err (x : U) (s : MS) (n : Sm) : seqR (.err x s) n = .err x s := (rfl)
@[simp] theorem seq_s (m n : Sm) (s : MS) : seq m n s = seqR (m s) n := (rfl)
@[simp] theorem iff_s (t : M Bool) (a b : Sm) (s : MS) : iff_ t a b s = bindR (t s) fun k => bif k then a else b := (rfl)
@[simp] theorem cond_s (k : Bool) (a b : M α) (s : MS) : (bif k then a else b) s = bif k then a s else b s := by cases k <;> rfl
@[simp] theorem stv_s (i : Nat) (u : U) (e : List Sl) (st : List U) : stv i u ⟨e, st⟩ = .ok () ⟨e.set i (.val u), st⟩ := (rfl)
@[simp] theorem sto_s (i : Nat) (u : U) (e : List Sl) (st : List U) (h : i < e.length) : sto i u ⟨e, st⟩ = .ok () ⟨e.set i (.own u), st⟩ := by unfold sto; rw [if_pos h]
@[simp] theorem alc_s (u : U) (e : List Sl) (st : List U) : alc u ⟨e, st⟩ = .ok (.ref st.length) ⟨e, st ++ [u]⟩ := (rfl)
@[simp] theorem gcons_s (g : U → M Unit) (gs : List U → M Unit) (u : U) (us : List U) : gcons g gs (u :: us) = bd (g u) fun _ => gs us := (rfl)
@[simp] theorem gnil_s : gnil [] = ret () := (rfl)
@[simp] theorem gtup_s (n : Nat) (gs : List U → M Unit) (us : List U) : gtup n gs (.tup us) = when (us.length == n) (gs us) := (rfl)
@[simp] theorem gtup_l (n : Nat) (gs : List U → M Unit) (us : List U) : gtup n gs (.lst us) = when (us.length == n) (gs us) := (rfl)
@[simp] theorem par2_s (i j : Nat) (ms : M (List U)) (s : MS) : par2 i j ms s = bindR (ms s) fun us => match us with
  | [u, w] => bd (stv i u) fun _ => bd (stv j w) fun _ => ret .nx
  | _ => stk := (rfl)
@[simp] theorem mkT_s (us : List U) (s : MS) (h : us.length ≤ sizeLine) : mkT us s = .ok (.tup us) s := by unfold mkT; rw [when_d h]; rfl
@[simp] theorem mkL_s (us : List U) (s : MS) (h : us.length ≤ sizeLine) : mkL us s = .ok (.lst us) s := by unfold mkL; rw [when_d h]; rfl
@[simp] theorem ofO_some (u : U) : ofO (some u) = ret u := (rfl)
@[simp] theorem andV_s (ma mb : M U) (s : MS) : andV ma mb s = bindR (ma s) fun u => bd (tru u) fun k => bif k then mb else ret u := (rfl)
@[simp] theorem orV_s (ma mb : M U) (s : MS) : orV ma mb s = bindR (ma s) fun u => bd (tru u) fun k => bif k then ret u else mb := (rfl)
@[simp] theorem ifV_s (c : M Bool) (ma mb : M U) (s : MS) : ifV c ma mb s = bindR (c s) fun k => bif k then ma else mb := (rfl)
@[simp] theorem andT_s (a b : M Bool) (s : MS) : andT a b s = bindR (a s) fun k => bif k then b else ret false := (rfl)
@[simp] theorem orT_s (a b : M Bool) (s : MS) : orT a b s = bindR (a s) fun k => bif k then ret true else b := (rfl)
@[simp] theorem chain_s (f g : U → U → M U) (ma mb mc : M U) (s : MS) : chainM f g ma mb mc s = bindR (ma s) fun x => bd mb fun y => bd (bd (ct x) fun x' => bd (ct y) fun y' => f x' y') fun z => match z with
  | .bl k => bif k then (bd mc fun w => bd (ct y) fun y' => bd (ct w) fun w' => g y' w') else ret (.bl false)
  | _ => stk := (rfl)
@[simp] theorem upC_ref {e : List Sl} {st : List U} {j : Nat} {c c' : U} {f : U → Option U} (h : st[j]? = some c) (h2 : f c = some c') : upC (.ref j) f ⟨e, st⟩ = .ok () ⟨e, st.set j c'⟩ := by unfold upC; simp only [h, h2]
@[simp] theorem upC_slot {e : List Sl} {st : List U} {i : Nat} {c c' : U} {f : U → Option U} (h : e[i]? = some (.own c)) (h2 : f c = some c') : upC (.slot i) f ⟨e, st⟩ = .ok () ⟨e.set i (.own c'), st⟩ := by unfold upC; simp only [h, h2]
/-! operators -/
@[simp] theorem add_i (i j : Int) : addU (.int i) (.int j) = ret (.int (i + j)) := (rfl)
@[simp] theorem add_s (i j : Str) : addU (.str i) (.str j) = when (decide (i.length + j.length ≤ sizeLine)) (ret (.str (i ++ j))) := (rfl)
@[simp] theorem add_l (i j : List U) : addU (.lst i) (.lst j) = when (decide (i.length + j.length ≤ sizeLine)) (ret (.lst (i ++ j))) := (rfl)
@[simp] theorem add_t (i j : List U) : addU (.tup i) (.tup j) = when (decide (i.length + j.length ≤ sizeLine)) (ret (.tup (i ++ j))) := (rfl)
@[simp] theorem sub_i (i j : Int) : subU (.int i) (.int j) = ret (.int (i - j)) := (rfl)
@[simp] theorem mul_i (i j : Int) : mulU (.int i) (.int j) = when (mulOk i j) (ret (.int (i * j))) := (rfl)
@[simp] theorem fdiv_i (i j : Int) : fdivU (.int i) (.int j) = when (divOk j) (ret (.int (i.fdiv j))) := (rfl)
@[simp] theorem mod_i (i j : Int) : modU (.int i) (.int j) = when (decide (j ≠ 0)) (ret (.int (i.fmod j))) := (rfl)
@[simp] theorem pow_i (i j : Int) : powU (.int i) (.int j) = when (decide (0 ≤ j) && decide (j ≤ 1000000) && decide (i.natAbs < 2 ^ 64)) (ret (.int (i ^ j.toNat))) := (rfl)
@[simp] theorem iadd_i (i j : Int) : iaddU (.int i) (.int j) = ret (.int (i + j)) := (rfl)
@[simp] theorem neg_i (i : Int) : negU (.int i) = ret (.int (-i)) := (rfl)
@[simp] theorem lt_i (i j : Int) : ordU ltI (.int i) (.int j) = ret (.bl (decide (i < j))) := (rfl)
@[simp] theorem le_i (i j : Int) : ordU leI (.int i) (.int j) = ret (.bl (decide (i ≤ j))) := (rfl)
@[simp] theorem gt_i (i j : Int) : ordU gtI (.int i) (.int j) = ret (.bl (decide (j < i))) := (rfl)
@[simp] theorem ge_i (i j : Int) : ordU geI (.int i) (.int j) = ret (.bl (decide (j ≤ i))) := (rfl)
@[simp] theorem tru_non : tru .non = ret false := (rfl)
@[simp] theorem tru_bl (b : Bool) : tru (.bl b) = ret b := (rfl)
@[simp] theorem tru_int (b : Int) : tru (.int b) = ret (b != 0) := (rfl)
@[simp] theorem tru_lst (b : List U) : tru (.lst b) = ret (!b.isEmpty) := (rfl)
@[simp] theorem tru_tup (b : List U) : tru (.tup b) = ret (!b.isEmpty) := (rfl)
@[simp] theorem tru_dK (b : List (Key × U)) : tru (.dK b) = ret (!b.isEmpty) := (rfl)
@[simp] theorem len_s (x : Str) : lenU [.str x] = when (decide (x.length ≤ sizeLine)) (ret (.int (x.length : Nat))) := (rfl)
@[simp] theorem len_l (x : List U) : lenU [.lst x] = ret (.int (x.length : Nat)) := (rfl)
@[simp] theorem len_kl (x : List U) : lenU [.kl x] = ret (.int (x.length : Nat)) := (rfl)
@[simp] theorem len_t (x : List U) : lenU [.tup x] = ret (.int (x.length : Nat)) := (rfl)
@[simp] theorem len_d (x : List (Key × U)) : lenU [.dK x] = ret (.int (x.length : Nat)) := (rfl)
@[simp] theorem abs_i (i : Int) : absU [.int i] = ret (.int i.natAbs) := by
  have e : (if i < 0 then -i else i) = (i.natAbs : Int) := by split <;> omega
  show (ret (U.int (if i < 0 then -i else i)) : M U) = _
  rw [e]
@[simp] theorem int_i (i : Int) : intU [.int i] = ret (.int i) := (rfl)
@[simp] theorem int_b (k : Bool) : intU [.bl k] = ret (.int (if k then 1 else 0)) := (rfl)
@[simp] theorem str_i (i : Int) : strU [.int i] = when (decide (i.natAbs.log2 < 1920)) (ret (.str (toString i))) := (rfl)
@[simp] theorem str_s (i : Str) : strU [.str i] = ret (.str i) := (rfl)
@[simp] theorem isNon_ct (u : U) (h : isV u = true) (n : u ≠ .non) (neg : Bool) : isU neg u .non = ret (.bl (xor neg false)) := by
  cases u <;> first | cases h; done | exact absurd rfl n | rfl
@[simp] theorem is_non (neg : Bool) : isU neg .non .non = ret (.bl (xor neg true)) := (rfl)
@[simp] theorem list_l (us : List U) : listU [.lst us] = ret (.lst us) := (rfl)
@[simp] theorem list_kl (us : List U) : listU [.kl us] = ret (.lst us) := (rfl)
@[simp] theorem list_t (us : List U) : listU [.tup us] = ret (.lst us) := (rfl)
@[simp] theorem list_d (us : List (Key × U)) : listU [.dK us] = ret (.lst (us.map fun q => kU q.1)) := (rfl)
@[simp] theorem dict_d (us : List (Key × U)) : dictU [.dK us] = ret (.dK us) := (rfl)
@[simp] theorem items_l (us : List U) : itemsU (.lst us) = ret us := (rfl)
@[simp] theorem items_kl (us : List U) : itemsU (.kl us) = ret us := (rfl)
@[simp] theorem items_t (us : List U) : itemsU (.tup us) = ret us := (rfl)
@[simp] theorem items_s (x : Str) : itemsU (.str x) = ret (x.cps.toList.map fun c => .str ⟨#[c]⟩) := (rfl)
@[simp] theorem items_d (us : List (Key × U)) : itemsU (.dK us) = ret (us.map fun q => kU q.1) := (rfl)
@[simp] theorem items_dT (us : List (List Key × U)) : itemsU (.dT us) = ret (us.map fun q => .tup (q.1.map kU)) := (rfl)
@[simp] theorem asO_i (i : Int) : asO (.int i) = ret (some i) := (rfl)
@[simp] theorem slc_l (lo hi : Option Int) (us : List U) : slcU lo hi (.lst us) = ret (.lst (cutU us lo hi)) := (rfl)
@[simp] theorem slc_kl (lo hi : Option Int) (us : List U) : slcU lo hi (.kl us) = ret (.lst (cutU us lo hi)) := (rfl)
@[simp] theorem slc_t (lo hi : Option Int) (us : List U) : slcU lo hi (.tup us) = ret (.tup (cutU us lo hi)) := (rfl)
@[simp] theorem slc_s (lo hi : Option Int) (z : Str) : slcU lo hi (.str z) = when (decide (z.length ≤ sizeLine)) (ret (.str (cutS z lo hi))) := (rfl)
@[simp] theorem ix_t (us : List U) (k : Int) : ixV (.tup us) (.int k) = ofO (L2.atI us k) := (rfl)
@[simp] theorem ix_l (us : List U) (k : Int) : ixV (.lst us) (.int k) = ofO (L2.atI us k) := (rfl)
@[simp] theorem ix_kl (us : List U) (k : Int) : ixV (.kl us) (.int k) = ofO (L2.atI us k) := (rfl)
@[simp] theorem ix_s (x : Str) (k : Int) : ixV (.str x) (.int k) = when (decide (x.length ≤ sizeLine)) (ofO ((L2.atI x.cps.toList k).map fun c => U.str ⟨#[c]⟩)) := (rfl)
@[simp] theorem ix_d {kvs : List (Key × U)} {k : U} {q : Key} {u : U} (h : keyU k = some q) (h2 : getG kvs q = some u) (s : MS) : ixV (.dK kvs) k s = .ok u s := by unfold ixV; simp only [h, h2]
@[simp] theorem key_s (x : Str) : keyU (.str x) = some (.inr x) := (rfl)
@[simp] theorem key_i (x : Int) : keyU (.int x) = some (.inl x) := (rfl)
@[simp] theorem kU_i (x : Int) : kU (.inl x) = .int x := (rfl)
@[simp] theorem kU_s (x : Str) : kU (.inr x) = .str x := (rfl)
@[simp] theorem atI_z {α : Type} (us : List α) : L2.atI us 0 = us[0]? := atI_nat us 0
@[simp] theorem atI_1' {α : Type} (us : List α) : L2.atI us 1 = us[1]? := atI_nat us 1
@[simp] theorem atI_2' {α : Type} (us : List α) : L2.atI us 2 = us[2]? := atI_nat us 2
@[simp] theorem atI_3' {α : Type} (us : List α) : L2.atI us 3 = us[3]? := atI_nat us 3
@[simp] theorem atI_4' {α : Type} (us : List α) : L2.atI us 4 = us[4]? := atI_nat us 4
@[simp] theorem atI_5' {α : Type} (us : List α) : L2.atI us 5 = us[5]? := atI_nat us 5
@[simp] theorem atI_6' {α : Type} (us : List α) : L2.atI us 6 = us[6]? := atI_nat us 6
@[simp] theorem atI_7' {α : Type} (us : List α) : L2.atI us 7 = us[7]? := atI_nat us 7
@[simp] theorem atI_c {α : Type} (us : List α) (n : Nat) : L2.atI us (n : Int) = us[n]? := atI_nat us n
@[simp] theorem atI_m {α : Type} (us : List α) : L2.atI us (-1) = us.getLast? := by
  unfold L2.atI
  cases us with
  | nil => rfl
  | cons a l =>
    have e : ixN (a :: l).length (-1) = some l.length := by
      unfold ixN
      simp
      omega
    rw [e]
    simp [List.getLast?_eq_getElem?]
@[simp] theorem dunM_s (cn : Str) (mo mi : M U) (g : F) (s : MS) : dunM cn mo mi g s = bindR (mo s) fun u => bd mi fun i => bd (ct u) fun u' => match u' with
  | .obj c _ => when (decide (c = cn)) (callF g [u, i])
  | _ => stk := (rfl)
@[simp] theorem methM_s (cn m : Str) (mo : M U) (ms : M (List U)) (g : F) (s : MS) : methM cn m mo ms g s = bindR (mo s) fun u => bd (ct u) fun u' => match u' with
  | .obj c fs => when (decide (c = cn) && (fs.lookup m).isNone) (bd ms fun us => callF g (u :: us))
  | _ => stk := (rfl)
@[simp] theorem propM_s (cn : Str) (mo : M U) (g : F) (s : MS) : propM cn mo g s = bindR (mo s) fun u => bd (ct u) fun u' => match u' with
  | .obj c _ => when (decide (c = cn)) (noE (callF g [u]))
  | _ => stk := (rfl)
def noER {α : Type} (r : Res MS α) : Res MS α := match r with
  | .ok a s => .ok a s
  | _ => .stuck
@[simp] theorem noE_s {α : Type} (m : M α) (s : MS) : noE m s = noER (m s) := by unfold noE noER; rfl
@[simp] theorem noER_ok {α : Type} (a : α) (s : MS) : noER (.ok a s) = .ok a s := (rfl)
/-! defs -/
def finF (r : Res MS Fl) : Res (List U) U := match r with
  | .ok (.rt u) s => .ok u s.st
  | .ok .nx s => .ok .non s.st
  | .err x s => .err x s.st
  | _ => .stuck
@[simp] theorem finF_rt (u : U) (e : List Sl) (st : List U) : finF (.ok (.rt u) ⟨e, st⟩) = .ok u st := (rfl)
@[simp] theorem finF_nx (e : List Sl) (st : List U) : finF (.ok .nx ⟨e, st⟩) = .ok .non st := (rfl)
@[simp] theorem finF_err (x : U) (e : List Sl) (st : List U) : finF (.err x ⟨e, st⟩) = .err x st := (rfl)
@[simp] theorem mkF_s (nl : Nat) (m : Sm) (us st : List U) : mkF nl m us st = finF (m ⟨us.map Sl.val ++ List.replicate (nl - us.length) Sl.no, st⟩) := by
  unfold mkF finF
  rfl
/-! blocks -/
@[simp] theorem wipe_nil (e : List Sl) : wipeE e [] = e := (rfl)
@[simp] theorem wipe_cons (e : List Sl) (v : Nat) (vs : List Nat) : wipeE e (v :: vs) = (wipeE e vs).set v .no := (rfl)
@[simp] theorem back_nil (e0 e : List Sl) : backE e0 e [] = e := (rfl)
@[simp] theorem back_cons (e0 e : List Sl) (v : Nat) (vs : List Nat) : backE e0 e (v :: vs) = (backE e0 e vs).set v (e0.getD v .no) := (rfl)
/-! loops -/
def lastS (o : Sl) (xs : List U) : Sl := match xs.getLast? with
  | some u => .val u
  | none => o
@[simp] theorem lastS_nil (o : Sl) : lastS o [] = o := (rfl)
@[simp] theorem lastS_cons (o : Sl) (x : U) (xs : List U) : lastS o (x :: xs) = lastS (.val x) xs := by
  unfold lastS
  cases xs with
  | nil => rfl
  | cons y ys => rw [List.getLast?_cons_cons]; simp [List.getLast?_cons]
def loopR (r : Res MS Fl) (n : Sm) : Res MS Fl := match r with
  | .ok .nx s => n s
  | .ok .ct s => n s
  | .ok .bk s => .ok .nx s
  | r => r
@[simp] theorem loopR_nx (s : MS) (n : Sm) : loopR (.ok .nx s) n = n s := (rfl)
@[simp] theorem loopR_ct (s : MS) (n : Sm) : loopR (.ok .ct s) n = n s := (rfl)
@[simp] theorem loopR_bk (s : MS) (n : Sm) : loopR (.ok .bk s) n = .ok .nx s := (rfl)
@[simp] theorem loopR_rt (u : U) (s : MS) (n : Sm) : loopR (.ok (.rt u) s) n = .ok (.rt u) s := (rfl)
@[simp] theorem loopR_err (u : U) (s : MS) (n : Sm) : loopR (.err u s) n = .err u s := (rfl)
@[simp] theorem for_nil (g : U → M Unit) (b : Sm) (s : MS) : forL g b [] s = .ok .nx s := (rfl)
@[simp] theorem for_cons (g : U → M Unit) (b : Sm) (x : U) (xs : List U) (s : MS) : forL g b (x :: xs) s = bindR (g x s) fun _ => fun s => loopR (b s) (forL g b xs) := (rfl)
theorem while_t {c : M Bool} {b : Sm} {s s1 s2 : MS} (h1 : c s = .ok true s1) (h2 : b s1 = .ok .nx s2) (hr : whileM c b s2 ≠ .stuck) : whileM c b s = whileM c b s2 := whileM_step h1 h2 rfl hr
end
end Mi

/-! Mini T: comprehensions evaluated. -/
namespace Mi
open PySem PySem.Spec PyProof.Rows L2
def notOwn : Sl → Bool
  | .own _ => false
  | _ => true
@[simp] theorem notOwn_no : notOwn .no = true := (rfl)
@[simp] theorem notOwn_val (u : U) : notOwn (.val u) = true := (rfl)
@[simp] theorem noOwn_nil (e : List Sl) : noOwn e [] = true := (rfl)
@[simp] theorem noOwn_cons (e : List Sl) (v : Nat) (vs : List Nat) : noOwn e (v :: vs) = (notOwn (e.getD v .no) && noOwn e vs) := by
  have h : ∀ s : Sl, (match s with | .own _ => false | _ => true) = notOwn s := fun s => by cases s <;> rfl
  show (List.all (v :: vs) fun i => match e.getD i .no with | .own _ => false | _ => true) = _
  rw [List.all_cons, h]
  rfl
theorem back_wipe (e : List Sl) (vs : List Nat) : backE e (wipeE e vs) vs = e := by
  apply List.ext_getElem?
  intro i
  rw [backE_get, wipeE_get, wipeE_length]
  by_cases m : i ∈ vs
  · rw [if_pos m]
    by_cases l : i < e.length
    · rw [if_pos l, List.getElem?_eq_getElem l, List.getD_eq_getElem?_getD, List.getElem?_eq_getElem l]
      rfl
    · rw [if_neg l, List.getElem?_eq_none (by omega)]
  · rw [if_neg m, if_neg m]
def elR (g : U → M Unit) (e : M U) (E : List Sl) (st : List U) (x : U) : Res MS U := bindR (g x ⟨E, st⟩) fun _ => e
theorem elR_s (g : U → M Unit) (e : M U) (E : List Sl) (st : List U) (x : U) : elR g e E st x = bindR (g x ⟨E, st⟩) fun _ => e := (rfl)
@[simp] theorem stvR_s (i : Nat) (e : M U) (E : List Sl) (st : List U) (x : U) : elR (stv i) e E st x = e ⟨E.set i (.val x), st⟩ := (rfl)
@[simp] theorem gtupR_s (n : Nat) (gs : List U → M Unit) (e : M U) (E : List Sl) (st : List U) (x : U) : elR (gtup n gs) e E st x = bindR (gtup n gs x ⟨E, st⟩) fun _ => e := (rfl)
theorem compL_step {vs : List Nat} {g : U → M Unit} {e : M U} {E E2 : List Sl} {st st2 : List U} {x y : U} {acc xs : List U} (h : elR g e E st x = .ok y ⟨E2, st2⟩) (hl : acc.length < sizeLine) :
    compL vs g (ret true) e acc (x :: xs) ⟨E, st⟩ = compL vs g (ret true) e (acc ++ [y]) xs ⟨wipeE E2 vs, st2⟩ := by
  have c : compL vs g (ret true) e acc (x :: xs) ⟨E, st⟩ = bindR (g x ⟨E, st⟩) fun _ => bd e (fun y => when (decide (acc.length < sizeLine)) fun s => compL vs g (ret true) e (acc ++ [y]) xs { s with env := wipeE s.env vs }) := (rfl)
  rw [c]
  unfold elR at h
  cases q : g x ⟨E, st⟩ with
  | ok a s =>
    rw [q] at h
    have h : e s = .ok y ⟨E2, st2⟩ := h
    show bindR (e s) _ = _
    rw [h]
    show when _ _ _ = _
    rw [when_d hl]
  | err a s => rw [q] at h; cases h
  | stuck => rw [q] at h; cases h
theorem compL_pure {α : Type} (r f : α → U) {vs : List Nat} {g : U → M Unit} {e : M U} {E : List Sl} {st : List U} : ∀ {xs : List α} {acc : List U}, (∀ x ∈ xs, ∃ E2, elR g e E st (r x) = .ok (f x) ⟨E2, st⟩ ∧ wipeE E2 vs = E) → acc.length + xs.length ≤ sizeLine →
    compL vs g (ret true) e acc (xs.map r) ⟨E, st⟩ = .ok (acc ++ xs.map f) ⟨E, st⟩ := by
  intro xs
  induction xs with
  | nil => intro acc _ _; show Res.ok acc _ = _; simp
  | cons x xs ih =>
    intro acc h hl
    obtain ⟨E2, e1, e2⟩ := h x (by simp)
    rw [List.map_cons, compL_step e1 (by simp only [List.length_cons] at hl; omega), e2, ih (fun y hy => h y (by simp [hy])) (by simp only [List.length_cons, List.length_append, List.length_nil] at hl ⊢; omega)]
    simp
theorem lc_map {α : Type} (r f : α → U) {xs : List α} {vs : List Nat} {mi : M (List U)} {g : U → M Unit} {e : M U} {s : MS} {E0 : List Sl} {st : List U} (h1 : mi s = .ok (xs.map r) ⟨E0, st⟩) (hn : noOwn E0 vs = true)
    (he : ∀ x ∈ xs, ∃ E2, elR g e (wipeE E0 vs) st (r x) = .ok (f x) ⟨E2, st⟩ ∧ wipeE E2 vs = wipeE E0 vs) (hl : xs.length ≤ sizeLine) : lcM vs mi g (ret true) e s = .ok (.lst (xs.map f)) ⟨E0, st⟩ := by
  unfold lcM
  rw [bd_ok h1]
  show when (noOwn E0 vs) _ _ = _
  rw [hn]
  show finL vs E0 _ = _
  rw [compL_pure r f (acc := []) he (by simpa using hl)]
  show Res.ok (U.lst ([] ++ xs.map f)) (⟨backE E0 (wipeE E0 vs) vs, st⟩ : MS) = _
  rw [back_wipe]; rfl
/-- .. with the store's first object drawn from -/
theorem compL_draw {α β : Type} (r : α → U) (f : β → U) (R : α → β → Prop) (B : U → Prop) {vs : List Nat} {g : U → M Unit} {e : M U} {E : List Sl} {st : List U} : ∀ {xs : List α} {acc : List U} {b : U}, B b →
    (∀ x ∈ xs, ∀ b, B b → ∃ y b' E2, elR g e E (b :: st) (r x) = .ok (f y) ⟨E2, b' :: st⟩ ∧ wipeE E2 vs = E ∧ R x y ∧ B b') → acc.length + xs.length ≤ sizeLine →
    ∃ (ps : List (α × β)) (b' : U), compL vs g (ret true) e acc (xs.map r) ⟨E, b :: st⟩ = .ok (acc ++ ps.map fun p => f p.2) ⟨E, b' :: st⟩ ∧ ps.map (·.1) = xs ∧ (∀ p ∈ ps, R p.1 p.2) ∧ B b' := by
  intro xs
  induction xs with
  | nil => intro acc b hb _ _; exact ⟨[], b, by show Res.ok acc _ = _; simp, rfl, fun p hp => (by cases hp), hb⟩
  | cons x xs ih =>
    intro acc b hb h hl
    obtain ⟨y, b1, E2, e1, e2, hR, hb1⟩ := h x (by simp) b hb
    obtain ⟨ps, b2, e3, em, hp, hb2⟩ := ih (acc := acc ++ [f y]) hb1 (fun z hz => h z (by simp [hz])) (by simp only [List.length_cons, List.length_append, List.length_nil] at hl ⊢; omega)
    refine ⟨(x, y) :: ps, b2, ?_, by rw [List.map_cons, em], ?_, hb2⟩
    · rw [List.map_cons, compL_step e1 (by simp only [List.length_cons] at hl; omega), e2, e3]
      simp
    · intro p hp'
      rcases List.mem_cons.mp hp' with rfl | hp'
      · exact hR
      · exact hp p hp'
theorem lc_draw {α β : Type} (r : α → U) (f : β → U) (R : α → β → Prop) (B : U → Prop) {xs : List α} {vs : List Nat} {mi : M (List U)} {g : U → M Unit} {e : M U} {s : MS} {E0 : List Sl} {b : U} {st : List U} (hb : B b) (h1 : mi s = .ok (xs.map r) ⟨E0, b :: st⟩) (hn : noOwn E0 vs = true)
    (he : ∀ x ∈ xs, ∀ b, B b → ∃ y b' E2, elR g e (wipeE E0 vs) (b :: st) (r x) = .ok (f y) ⟨E2, b' :: st⟩ ∧ wipeE E2 vs = wipeE E0 vs ∧ R x y ∧ B b') (hl : xs.length ≤ sizeLine) :
    ∃ (ps : List (α × β)) (b' : U), lcM vs mi g (ret true) e s = .ok (.lst (ps.map fun p => f p.2)) ⟨E0, b' :: st⟩ ∧ ps.map (·.1) = xs ∧ (∀ p ∈ ps, R p.1 p.2) ∧ B b' := by
  obtain ⟨ps, b', e1, e2, e3, e4⟩ := compL_draw r f R B (acc := []) hb he (by simpa using hl)
  refine ⟨ps, b', ?_, e2, e3, e4⟩
  unfold lcM
  rw [bd_ok h1]
  show when (noOwn E0 vs) _ _ = _
  rw [hn]
  show finL vs E0 _ = _
  rw [e1]
  show Res.ok (U.lst ([] ++ ps.map fun p => f p.2)) (⟨backE E0 (wipeE E0 vs) vs, b' :: st⟩ : MS) = _
  rw [back_wipe]; rfl
end Mi

/-! Mini V: dicts by typed keys, sorted texts of one sign, new objects evaluated. -/
namespace Mi
open PySem PySem.Spec PyProof.Rows L2
section
variable {κ κ' α β : Type} [DecidableEq κ] [DecidableEq κ']
theorem getG_nil (k : κ) : getG ([] : List (κ × α)) k = none := rfl
theorem getG_cons (q : κ × α) (kvs : List (κ × α)) (k : κ) : getG (q :: kvs) k = if q.1 = k then some q.2 else getG kvs k := by
  unfold getG
  rw [List.find?_cons]
  by_cases h : q.1 = k
  · simp [h]
  · simp [h]
theorem getG_map (f : κ → κ') (g : α → β) (hf : ∀ a b, f a = f b → a = b) (kvs : List (κ × α)) (k : κ) : getG (kvs.map fun p => (f p.1, g p.2)) (f k) = (getG kvs k).map g := by
  induction kvs with
  | nil => rfl
  | cons q kvs ih =>
    rw [List.map_cons, getG_cons, getG_cons, ih]
    by_cases h : q.1 = k
    · simp [h]
    · have h2 : f q.1 ≠ f k := fun z => h (hf _ _ z)
      simp [h, h2]
theorem any_map (f : κ → κ') (g : α → β) (hf : ∀ a b, f a = f b → a = b) (kvs : List (κ × α)) (k : κ) : ((kvs.map fun p => (f p.1, g p.2)).any fun kv => decide (kv.1 = f k)) = kvs.any fun kv => decide (kv.1 = k) := by
  induction kvs with
  | nil => rfl
  | cons q kvs ih =>
    rw [List.map_cons, List.any_cons, List.any_cons, ih]
    by_cases h : q.1 = k
    · simp [h]
    · have h2 : f q.1 ≠ f k := fun z => h (hf _ _ z)
      simp [h, h2]
theorem putG_map (f : κ → κ') (g : α → β) (hf : ∀ a b, f a = f b → a = b) (kvs : List (κ × α)) (k : κ) (v : α) : putG (kvs.map fun p => (f p.1, g p.2)) (f k) (g v) = (putG kvs k v).map fun p => (f p.1, g p.2) := by
  unfold putG
  rw [any_map f g hf]
  by_cases h : (kvs.any fun kv => decide (kv.1 = k)) = true
  · rw [if_pos h, if_pos h, List.map_map, List.map_map]
    refine List.map_congr_left fun q _ => ?_
    by_cases e : q.1 = k
    · simp [e]
    · have e2 : f q.1 ≠ f k := fun z => e (hf _ _ z)
      simp [e, e2]
  · rw [if_neg h, if_neg h]
    simp
theorem any_key {kvs : List (κ × α)} {k : κ} : (kvs.any fun kv => decide (kv.1 = k)) = true ↔ k ∈ kvs.map (·.1) := by
  simp only [List.any_eq_true, decide_eq_true_eq, List.mem_map]
theorem putG_new {kvs : List (κ × α)} {k : κ} (v : α) (h : k ∉ kvs.map (·.1)) : putG kvs k v = kvs ++ [(k, v)] := by
  unfold putG
  rw [if_neg (fun z => h (any_key.mp z))]
theorem getG_none {kvs : List (κ × α)} {k : κ} : getG kvs k = none ↔ k ∉ kvs.map (·.1) := by
  induction kvs with
  | nil => simp [getG_nil]
  | cons q kvs ih =>
    rw [getG_cons]
    by_cases h : q.1 = k
    · simp [h]
    · simp only [if_neg h, ih, List.map_cons, List.mem_cons, not_or]
      exact ⟨fun z => ⟨fun y => h y.symm, z⟩, fun z => z.2⟩
theorem getG_some {kvs : List (κ × α)} {k : κ} (h : k ∈ kvs.map (·.1)) : ∃ v, getG kvs k = some v := by
  cases e : getG kvs k with
  | none => exact absurd h (getG_none.mp e)
  | some v => exact ⟨v, rfl⟩
theorem getG_mem {kvs : List (κ × α)} {k : κ} {v : α} (h : getG kvs k = some v) : (k, v) ∈ kvs := by
  induction kvs with
  | nil => cases h
  | cons q kvs ih =>
    rw [getG_cons] at h
    by_cases e : q.1 = k
    · rw [if_pos e] at h; cases h; rw [← e]; exact List.mem_cons_self
    · rw [if_neg e] at h; exact List.mem_cons_of_mem _ (ih h)
theorem getG_nodup {kvs : List (κ × α)} (n : (kvs.map (·.1)).Nodup) {k : κ} {v : α} (h : (k, v) ∈ kvs) : getG kvs k = some v := by
  induction kvs with
  | nil => cases h
  | cons q kvs ih =>
    rw [getG_cons]
    rw [List.map_cons, List.nodup_cons] at n
    rcases List.mem_cons.mp h with h | h
    · subst h; simp
    · have : q.1 ≠ k := fun z => n.1 (by rw [z]; exact List.mem_map.mpr ⟨_, h, rfl⟩)
      rw [if_neg this, ih n.2 h]
end
@[simp] theorem cut_to (us : List U) (k : Nat) : cutU us none (some (k : Int)) = us.take k := by
  unfold cutU
  rw [HT.sIx_none, HT.sIx_nat]
  simp [List.take_eq_take_iff]
@[simp] theorem cut_from (us : List U) (k : Nat) : cutU us (some (k : Int)) none = us.drop k := by
  unfold cutU
  rw [HT.sIx_none, HT.sIx_nat]
  by_cases h : k ≤ us.length
  · rw [Nat.min_eq_left h, List.take_of_length_le (by rw [List.length_drop]; omega)]
  · rw [Nat.min_eq_right (by omega), List.drop_eq_nil_of_le (Nat.le_refl _), List.drop_eq_nil_of_le (by omega)]; simp
@[simp] theorem cut_to0 (us : List U) : cutU us none (some 0) = us.take 0 := cut_to us 0
@[simp] theorem cut_from0 (us : List U) : cutU us (some 0) none = us.drop 0 := cut_from us 0
@[simp] theorem cut_to1 (us : List U) : cutU us none (some 1) = us.take 1 := cut_to us 1
@[simp] theorem cut_from1 (us : List U) : cutU us (some 1) none = us.drop 1 := cut_from us 1
@[simp] theorem cut_to2 (us : List U) : cutU us none (some 2) = us.take 2 := cut_to us 2
@[simp] theorem cut_from2 (us : List U) : cutU us (some 2) none = us.drop 2 := cut_from us 2
@[simp] theorem cut_to3 (us : List U) : cutU us none (some 3) = us.take 3 := cut_to us 3
@[simp] theorem cut_from3 (us : List U) : cutU us (some 3) none = us.drop 3 := cut_from us 3
@[simp] theorem cut_to4 (us : List U) : cutU us none (some 4) = us.take 4 := cut_to us 4
@[simp] theorem cut_from4 (us : List U) : cutU us (some 4) none = us.drop 4 := cut_from us 4
@[simp] theorem cut_to5 (us : List U) : cutU us none (some 5) = us.take 5 := cut_to us 5
@[simp] theorem cut_from5 (us : List U) : cutU us (some 5) none = us.drop 5 := cut_from us 5
/-! one sign -/
def ch (c : Nat) : Str := ⟨#[c]⟩
theorem ch_inj {a b : Nat} (h : ch a = ch b) : a = b := by
  unfold ch at h
  simpa using h
@[simp] theorem ch_eq {a b : Nat} : (ch a = ch b) = (a = b) := propext ⟨ch_inj, fun h => by rw [h]⟩
@[simp] theorem ch_len (c : Nat) : (ch c).length = 1 := (rfl)
theorem leS_ch (a b : Nat) : leS (ch a) (ch b) = decide (a ≤ b) := by
  have e : leS (ch a) (ch b) = !ltCps [b] [a] := rfl
  rw [e]
  unfold ltCps
  by_cases h : a ≤ b
  · have h1 : ¬ b < a := by omega
    by_cases h2 : b = a
    · simp [h2, ltCps]
    · simp [h, h1, h2]
  · have h1 : b < a := by omega
    simp [h, h1]
def srtN (l : List Nat) : List Nat := l.mergeSort (fun a b => decide (a ≤ b))
theorem srtN_pw (l : List Nat) : (srtN l).Pairwise (· ≤ ·) := by
  have h := List.pairwise_mergeSort (le := fun a b : Nat => decide (a ≤ b)) (fun a b c h k => by simp only [decide_eq_true_eq] at *; omega) (fun a b => by simp only [Bool.or_eq_true, decide_eq_true_eq]; omega) l
  exact h.imp (by simp)
theorem srtN_perm (l : List Nat) : (srtN l).Perm l := List.mergeSort_perm l _
theorem srt_ch (l : List Nat) : srt (l.map ch) = (srtN l).map ch := by
  refine (srt_of ((srtN_perm l).map ch) ?_).symm
  rw [List.pairwise_map]
  exact (srtN_pw l).imp fun {a b} h => by rw [leS_ch]; simpa using h
theorem srtN_of {ys l : List Nat} (p : ys.Perm l) (s : ys.Pairwise (· ≤ ·)) : ys = srtN l :=
  List.Perm.eq_of_pairwise (le := (· ≤ ·)) (fun _ _ _ _ h k => Nat.le_antisymm h k) s (srtN_pw l) (p.trans (srtN_perm l).symm)
theorem strsU_map (l : List Str) : strsU (l.map U.str) = some l := by
  induction l with
  | nil => rfl
  | cons x l ih => rw [List.map_cons, strsU, ih]; rfl
theorem keyS_map {α : Type} (f : α → Str) (g : α → U) (l : List α) : keyS (l.map fun p => (.inr (f p), g p)) = some (l.map f) := by
  induction l with
  | nil => rfl
  | cons x l ih => rw [List.map_cons, keyS, ih]; rfl
theorem sorted_l (l : List Str) (h : l.length < 64) (s : MS) : sortedU [.lst (l.map .str)] s = .ok (.lst ((srt l).map .str)) s := by
  unfold sortedU
  simp only [strsU_map]
  rw [when_d h]; rfl
theorem sorted_d {α : Type} (f : α → Str) (g : α → U) (l : List α) (h : l.length < 64) (s : MS) : sortedU [.dK (l.map fun p => (.inr (f p), g p))] s = .ok (.lst ((srt (l.map f)).map .str)) s := by
  unfold sortedU
  simp only [keyS_map]
  rw [when_d (by simpa using h)]; rfl
/-! new objects -/
@[simp] theorem get_new {α : Type} (st : List α) (o : α) : (st ++ [o])[st.length]? = some o := by simp
@[simp] theorem set_new {α : Type} (st : List α) (o o' : α) : (st ++ [o]).set st.length o' = st ++ [o'] := by simp
theorem mkO_ok {c : Str} {g : F} {us : List U} {e : List Sl} {st : List U} {w : U} (h : g (.ref st.length :: us) (st ++ [.obj c []]) = .ok .non (st ++ [w])) (hw : noR st.length w = true) (hs : noRs st.length st = true) (ht : isTb w = false := by rfl) : mkO c g us ⟨e, st⟩ = .ok w ⟨e, st⟩ := by
  unfold mkO
  show outO st.length _ (g (.ref st.length :: us) (st ++ [.obj c []])) = _
  rw [h]
  unfold outO
  simp [hw, hs, ht]
theorem mkO_err {c : Str} {g : F} {us : List U} {e : List Sl} {st : List U} {w x : U} (h : g (.ref st.length :: us) (st ++ [.obj c []]) = .err x (st ++ [w])) (hw : noR st.length w = true) (hs : noRs st.length st = true) (hx : noR st.length x = true) (ht : isTb w = false := by rfl) : mkO c g us ⟨e, st⟩ = .err x ⟨e, st⟩ := by
  unfold mkO
  show outO st.length _ (g (.ref st.length :: us) (st ++ [.obj c []])) = _
  rw [h]
  unfold outO
  simp [hw, hs, hx, ht]
theorem noRs_all {j : Nat} : ∀ {us : List U}, (∀ u ∈ us, noR j u = true) → noRs j us = true
  | [], _ => by unfold noRs; rfl
  | u :: us, h => by
    unfold noRs
    rw [h u (by simp), noRs_all fun v hv => h v (by simp [hv])]
    rfl
theorem noRd_all {j : Nat} : ∀ {us : List (Key × U)}, (∀ u ∈ us, noR j u.2 = true) → noRd j us = true
  | [], _ => by unfold noRd; rfl
  | u :: us, h => by
    unfold noRd
    rw [h u (by simp), noRd_all fun v hv => h v (by simp [hv])]
    rfl
/-! {k: v for ..} -/
theorem compD_step {vs : List Nat} {g : U → M Unit} {ek e : M U} {E E1 E2 : List Sl} {st st1 st2 : List U} {x k y : U} {q : Key} {acc : List (Key × U)} {xs : List U} (hk : elR g ek E st x = .ok k ⟨E1, st1⟩) (h : e ⟨E1, st1⟩ = .ok y ⟨E2, st2⟩) (hq : keyU k = some q) (hl : acc.length < sizeLine) :
    compD vs g (ret true) ek e acc (x :: xs) ⟨E, st⟩ = compD vs g (ret true) ek e (putG acc q y) xs ⟨wipeE E2 vs, st2⟩ := by
  have c : compD vs g (ret true) ek e acc (x :: xs) ⟨E, st⟩ = bindR (g x ⟨E, st⟩) fun _ => bd ek (fun y => bd e fun z => when (decide (acc.length < sizeLine)) fun s => match keyU y with
        | some q => compD vs g (ret true) ek e (putG acc q z) xs { s with env := wipeE s.env vs }
        | none => .stuck) := rfl
  rw [c]
  unfold elR at hk
  cases q2 : g x ⟨E, st⟩ with
  | ok a s =>
    rw [q2] at hk
    have hk : ek s = .ok k ⟨E1, st1⟩ := hk
    show bindR (ek s) _ = _
    rw [hk]
    show bindR (e ⟨E1, st1⟩) _ = _
    rw [h, bindR_ok, when_d hl, hq]
  | err a s => rw [q2] at hk; cases hk
  | stuck => rw [q2] at hk; cases hk
/-- different keys -/
theorem compD_pure {α κ : Type} [DecidableEq κ] (r : α → U) (fk : κ → Key) (k : α → κ) (f : α → U) (hf : ∀ a b, fk a = fk b → a = b) {vs : List Nat} {g : U → M Unit} {ek e : M U} {E : List Sl} {st : List U} : ∀ {xs : List α} {acc : List (κ × U)},
    (∀ x ∈ xs, ∃ E1 E2, elR g ek E st (r x) = .ok (kU (fk (k x))) ⟨E1, st⟩ ∧ e ⟨E1, st⟩ = .ok (f x) ⟨E2, st⟩ ∧ wipeE E2 vs = E) → acc.length + xs.length ≤ sizeLine →
    (acc.map (·.1) ++ xs.map k).Nodup → compD vs g (ret true) ek e (acc.map fun p => (fk p.1, p.2)) (xs.map r) ⟨E, st⟩ = .ok ((acc ++ xs.map fun x => (k x, f x)).map fun p => (fk p.1, p.2)) ⟨E, st⟩ := by
  intro xs
  induction xs with
  | nil => intro acc _ _ _; show Res.ok _ _ = _; simp
  | cons x xs ih =>
    intro acc h hl hn
    obtain ⟨E1, E2, e1, e2, e3⟩ := h x (by simp)
    have hk : keyU (kU (fk (k x))) = some (fk (k x)) := by cases fk (k x) <;> rfl
    rw [List.map_cons, compD_step e1 e2 hk (by rw [List.length_map]; simp only [List.length_cons] at hl; omega), e3]
    have hx : k x ∉ acc.map (·.1) := fun z => by
      rw [List.map_cons, List.nodup_append] at hn
      exact hn.2.2 (k x) z (k x) (by simp) rfl
    rw [show putG (acc.map fun p => (fk p.1, p.2)) (fk (k x)) (f x) = (acc ++ [(k x, f x)]).map fun p => (fk p.1, p.2) by
      rw [← putG_new _ hx]; exact putG_map fk (fun u => u) hf acc (k x) (f x)]
    rw [ih (fun y hy => h y (by simp [hy])) (by simp only [List.length_cons, List.length_append, List.length_nil] at hl ⊢; omega) (by simpa using hn)]
    simp
theorem dc_map {α κ : Type} [DecidableEq κ] (r : α → U) (fk : κ → Key) (k : α → κ) (f : α → U) (hf : ∀ a b, fk a = fk b → a = b) {xs : List α} {vs : List Nat} {mi : M (List U)} {g : U → M Unit} {ek e : M U} {s : MS} {E0 : List Sl} {st : List U} (h1 : mi s = .ok (xs.map r) ⟨E0, st⟩) (hn : noOwn E0 vs = true)
    (he : ∀ x ∈ xs, ∃ E1 E2, elR g ek (wipeE E0 vs) st (r x) = .ok (kU (fk (k x))) ⟨E1, st⟩ ∧ e ⟨E1, st⟩ = .ok (f x) ⟨E2, st⟩ ∧ wipeE E2 vs = wipeE E0 vs) (hl : xs.length ≤ sizeLine) (hd : (xs.map k).Nodup) :
    dcM vs mi g (ret true) ek e s = .ok (.dK (xs.map fun x => (fk (k x), f x))) ⟨E0, st⟩ := by
  unfold dcM
  rw [bd_ok h1]
  show when (noOwn E0 vs) _ _ = _
  rw [hn]
  show finD vs E0 _ = _
  have z := compD_pure r fk k f hf (acc := []) he (by simpa using hl) (by simpa using hd)
  rw [List.map_nil] at z
  rw [z]
  show Res.ok (U.dK _) (⟨backE E0 (wipeE E0 vs) vs, st⟩ : MS) = _
  rw [back_wipe, List.nil_append, List.map_map]
  rfl
end Mi

/-! Mini W: methods of built-in types. -/
namespace Mi
open PySem PySem.Spec PyProof.Rows L2
/-- a method by contents -/
def rCM (X : Cx) (W : WX) (g : U → List U → M U) : V → List V → Hp → VK → Prop := fun x vs H Q => ∃ ρ s σ u us, Rl (gx X) ρ s σ H ∧ Con (gx X) ρ H u x ∧ Paired (Con (gx X) ρ H) us vs ∧ OkV X W ρ σ H (g u us s) Q
def bwM (T : String) (mo : M U) (ms : M (List U)) (g : U → List U → M U) : M U := bd mo fun o => bd (ct o) fun c => when (isTy T c) (bd ms fun us => bd (ct o) fun c' => bd (cts us) fun us' => g c' us')
section
variable {X : Cx} {W : WX} {e f o tg : Expr} {es rest : List Expr} {m ma mb mo : M U} {ms : M (List U)} {pos : Pos}
theorem se_bw {T id : String} {name : Str} {apos cpos : Pos} {g : U → List U → M U} (pa : PlainAttrs T) (slot : Slot T name id) (hty : typeOf (.builtin id) = pure (.type "method_descriptor")) (hm : MtR X id (rCM X W g)) (ho : SE0 X W o mo) (ha : SA0 X W (e :: es) ms)
    (hbase : attributeBase o name X.env (eval o X.env) = eval o X.env := by rfl)
    (hfew : ((backTo cpos (starEach (e :: es) X.env)).all (fun x => !x.1) && (backToKw cpos (keywordEach [] X.env)).all (fun x => x.1.isSome)
      && decide ((e :: es).length + ([] : List Keyword).length + (if ([] : List Keyword).isEmpty then 0 else 1) < 30)) = true := by rfl)
    (hline : (apos.endLine == cpos.line) = true := by rfl) (hs : starEach (e :: es) X.env = (false, eval e X.env) :: starEach es X.env := by rfl) (hplain : (backTo cpos (starEach es X.env)).any (·.1) = false := by rfl) :
    SE X W (.Call (.Attribute o name apos) (e :: es) [] cpos) (bwM T mo ms g) := by
  obtain ⟨to, po, ho⟩ := ho
  obtain ⟨ta, pa', ha⟩ := ha
  refine ⟨_, pe_bw pa slot hty hm po pa' hbase hfew hline hs hplain, fun ρ s σ H Q R k => ?_⟩
  refine ho ρ s σ H _ R (k.bd fun u s1 ρ1 H1 v _ x1 R1 r1 h1 => ?_)
  obtain ⟨c, c1, h2⟩ := ct_con R1 r1 h1
  obtain ⟨e1, h3⟩ := Ok.when h2
  refine ⟨isTy_ok c1 e1, ?_⟩
  refine ha ρ1 s1 σ H1 _ R1 (h3.bd fun us s2 ρ2 H2 vs _ x2 R2 r2 h4 => ?_)
  obtain ⟨c', c2, h5⟩ := ct_con R2 (r1.up x2.toUp) h4
  obtain ⟨us', c3, h6⟩ := cts_con R2 r2 h5
  exact ⟨ρ2, s2, σ, c', us', R2, c2, c3, h6⟩
def bwM0 (T : String) (mo : M U) (g : U → List U → M U) : M U := bd mo fun o => bd (ct o) fun c => when (isTy T c) (g c [])
theorem se_bw0 {T id : String} {name : Str} {apos cpos : Pos} {g : U → List U → M U} (pa : PlainAttrs T) (slot : Slot T name id) (hty : typeOf (.builtin id) = pure (.type "method_descriptor")) (hm : MtR X id (rCM X W g)) (ho : SE0 X W o mo)
    (hbase : attributeBase o name X.env (eval o X.env) = eval o X.env := by rfl) (hline : (apos.endLine == cpos.line) = true := by rfl) :
    SE X W (.Call (.Attribute o name apos) [] [] cpos) (bwM0 T mo g) := by
  obtain ⟨to, po, ho⟩ := ho
  refine ⟨_, pe_bw0 pa slot hty hm po hbase hline, fun ρ s σ H Q R k => ?_⟩
  refine ho ρ s σ H _ R (k.bd fun u s1 ρ1 H1 v _ x1 R1 r1 h1 => ?_)
  obtain ⟨c, c1, h2⟩ := ct_con R1 r1 h1
  obtain ⟨e1, h3⟩ := Ok.when h2
  exact ⟨isTy_ok c1 e1, ρ1, s1, σ, c, [], R1, c1, .nil, h3⟩
/-! sep.join(texts) -/
def joinO (a : Str) (us : List U) : M U := fun s => match strsU us with
  | some ys => if (ys.map (·.length)).sum + ys.length * a.length ≤ 16777216 then .ok (.str (Txt.join a ys)) s else .stuck
  | none => .stuck
def joinU : U → List U → M U
  | .str a, [.lst us] => joinO a us
  | .str a, [.tup us] => joinO a us
  | _, _ => stk
theorem mm_join : MtR X "str.join" (rCM X W joinU) := by
  intro pins s σ H x xs v us Q I rx rs ⟨ρ, s', σ', u, ws, R, c, cs, h⟩
  have key : ∀ {a : Str} {us : List U} {p : Addr} {vs : List V} {xs : List V}, x = .str a → xs = [.ref p] → Reps (gx X) ρ H us vs → (SqL X.K H p vs ∨ SqT X.K H p vs) → OkV X W ρ σ' H (joinO a us s') Q →
      ∃ a p, ∃ ys : List Str, x = .str a ∧ xs = [.ref p] ∧ (SqL X.K H p (ys.map V.str) ∨ SqT X.K H p (ys.map V.str)) ∧ (ys.map (·.length)).sum + ys.length * a.length ≤ 16777216 ∧ Q (.str (Txt.join a ys)) H := by
    intro a us p vs xs e1 e2 r q h
    unfold joinO at h
    cases es : strsU us with
    | none => rw [es] at h; exact h.elim
    | some ys =>
      rw [es] at h
      dsimp only at h
      by_cases hz : (ys.map (·.length)).sum + ys.length * a.length ≤ 16777216
      · rw [if_pos hz] at h
        have ev := strsU_ok r es
        subst ev
        exact ⟨a, p, ys, e1, e2, q, hz, h ρ H _ Ext.refl R .str⟩
      · rw [if_neg hz] at h; exact h.elim
  unfold joinU at h
  split at h
  · cases cs with
    | cons c1 c2 =>
      cases c2
      obtain ⟨p, vs, rfl, q, rr⟩ := c1.lst
      exact mt_join pins s σ H x _ v us Q I rx rs (key c.str rfl rr (.inl (.of q)) h)
  · cases cs with
    | cons c1 c2 =>
      cases c2
      obtain ⟨p, vs, rfl, q, rr⟩ := c1.tup
      exact mt_join pins s σ H x _ v us Q I rx rs (key c.str rfl rr (.inr q) h)
  · exact h.elim
/-! partition, split, startswith, isdigit -/
def partU : U → List U → M U
  | .str a, [.str b] => when (!(b.length == 0) && decide (a.length ≤ sizeLine)) (ret (.tup [.str (Txt.partition a b).1, .str (Txt.partition a b).2.1, .str (Txt.partition a b).2.2]))
  | _, _ => stk
theorem mm_partition : MtR X "str.partition" (rCM X W partU) := by
  intro pins s σ H x xs v us Q I rx rs ⟨ρ, s', σ', u, ws, R, c, cs, h⟩
  unfold partU at h
  split at h
  · cases cs with
    | cons c1 c2 =>
      cases c2
      obtain ⟨e1, h2⟩ := Ok.when h
      rw [Bool.and_eq_true, Bool.not_eq_true'] at e1
      exact mt_partition pins s σ H x _ v us Q I rx rs ⟨_, _, c.str, by rw [c1.str], e1.1, of_decide_eq_true e1.2, fun p hp => new_tup h2 R (.cons .str (.cons .str (.cons .str .nil))) p hp⟩
  · exact h.elim
def splitU : U → List U → M U
  | .str a, [.str b] => when (!(b.length == 0) && decide (a.length + 2 ≤ sizeLine)) (ret (.lst ((Txt.split a b).map U.str)))
  | _, _ => stk
theorem mm_split : MtR X "str.split" (rCM X W splitU) := by
  intro pins s σ H x xs v us Q I rx rs ⟨ρ, s', σ', u, ws, R, c, cs, h⟩
  unfold splitU at h
  split at h
  · cases cs with
    | cons c1 c2 =>
      cases c2
      obtain ⟨e1, h2⟩ := Ok.when h
      rw [Bool.and_eq_true, Bool.not_eq_true'] at e1
      exact mt_split pins s σ H x _ v us Q I rx rs ⟨_, _, c.str, by rw [c1.str], e1.1, of_decide_eq_true e1.2, fun p hp => new_lst h2 R (strs_rep _) p hp⟩
  · exact h.elim
def startsU : U → List U → M U
  | .str a, [.str b] => ret (.bl (Txt.startswith a b))
  | _, _ => stk
theorem mm_startswith : MtR X "str.startswith" (rCM X W startsU) := by
  intro pins s σ H x xs v us Q I rx rs ⟨ρ, s', σ', u, ws, R, c, cs, h⟩
  unfold startsU at h
  split at h
  · cases cs with
    | cons c1 c2 =>
      cases c2
      exact mt_startswith pins s σ H x _ v us Q I rx rs ⟨_, _, c.str, by rw [c1.str], h.ret R .bl⟩
  · exact h.elim
def isdigU : U → List U → M U
  | .str a, [] => ret (.bl (Txt.isdigit a))
  | _, _ => stk
theorem mm_isdigit : MtR X "str.isdigit" (rCM X W isdigU) := by
  intro pins s σ H x xs v us Q I rx rs ⟨ρ, s', σ', u, ws, R, c, cs, h⟩
  unfold isdigU at h
  split at h
  · cases cs
    exact mt_isdigit pins s σ H x _ v us Q I rx rs ⟨_, c.str, rfl, trivial, h.ret R .bl⟩
  · exact h.elim
/-! d.get(k), d.get(k, e) -/
/-- a key of two texts -/
def tkU : U → Option (List Key)
  | .tup [.str x, .str y] => some [.inr x, .inr y]
  | _ => none
def getO : U → U → Option (Option U)
  | .dK kvs, k => (keyU k).map fun q => getG kvs q
  | .dT kvs, k => (tkU k).map fun q => getG kvs q
  | _, _ => none
theorem tkU_ok {ρ : Rho} {H : Hp} {u : U} {v : V} {k : List Key} (c : Con (gx X) ρ H u v) (e : tkU u = some k) : ∃ b, v = .ref b ∧ H b = some (.tup (k.map kV)) ∧ u = .tup (k.map kU) := by
  unfold tkU at e
  split at e
  · cases e
    obtain ⟨b, ws, rfl, hb, r⟩ := c.tupR
    cases r with
    | cons r1 r2 =>
      cases r2 with
      | cons r2 r3 =>
        cases r3
        cases r1
        cases r2
        rcases hb with hb | hb
        · exact ⟨b, rfl, hb.1, rfl⟩
        · exact (hb.1 _ _ rfl).elim
  · cases e
theorem RepT.get {G : Gx} {ρ : Rho} {H : Hp} {k : List Key} : ∀ {us : List (List Key × U)} {vs : List (List Key × V)}, RepT G ρ H us vs → (∀ u, getG us k = some u → ∃ v, valV vs k = some v ∧ Rep G ρ H u v) ∧ (getG us k = none → valV vs k = none)
  | _, _, .nil => ⟨fun u e => (by cases e), fun _ => rfl⟩
  | (q, u1) :: us, (_, v1) :: vs, .cons h r => by
    have ih := RepT.get (k := k) r
    have e1 : getG ((q, u1) :: us) k = if q = k then some u1 else getG us k := getG_cons _ _ _
    have e2 : valV ((q, v1) :: vs) k = if q = k then some v1 else valV vs k := getG_cons (α := V) _ _ _
    rw [e1, e2]
    by_cases z : q = k
    · rw [if_pos z, if_pos z]
      exact ⟨fun u e => (by cases e; exact ⟨_, rfl, h⟩), fun e => (by cases e)⟩
    · rw [if_neg z, if_neg z]; exact ih
/-- what a dict has -/
theorem get_ok {ρ : Rho} {H : Hp} {d k : U} {x y : V} {r : Option U} (c : Con (gx X) ρ H d x) (ck : Con (gx X) ρ H k y) (e : getO d k = some r) :
    ∃ a o, x = .ref a ∧ IsD H a ∧ DGet H a y o ∧ (∀ u, r = some u → ∃ v, o = some v ∧ Rep (gx X) ρ H u v) ∧ (r = none → o = none) := by
  cases d with
  | dK kvs =>
    obtain ⟨a, vs, rfl, hd, rr⟩ := c.dK
    have e : (keyU k).map (fun q => getG kvs q) = some r := e
    cases q : keyU k with
    | none => rw [q] at e; cases e
    | some kk =>
      rw [q] at e
      cases e
      exact ⟨a, valV vs kk, rfl, .inl ⟨_, hd⟩, .inl ⟨vs, kk, hd, con_key ck q, rfl⟩, fun u e => (rr.get (k := kk)).1 u e, fun e => (rr.get (k := kk)).2 e⟩
  | dT kvs =>
    obtain ⟨a, vs, rfl, hd, rr⟩ := c.dT
    have e : (tkU k).map (fun q => getG kvs q) = some r := e
    cases q : tkU k with
    | none => rw [q] at e; cases e
    | some kk =>
      rw [q] at e
      cases e
      obtain ⟨b, rfl, hb, _⟩ := tkU_ok ck q
      exact ⟨a, valV vs kk, rfl, .inr ⟨_, hd⟩, .inr ⟨vs, kk, b, hd, rfl, hb, rfl⟩, fun u e => (rr.get (k := kk)).1 u e, fun e => (rr.get (k := kk)).2 e⟩
  | _ => cases e
def isD2 : U → Bool
  | .dK _ => true
  | .dT _ => true
  | _ => false
theorem isD2_ok {ρ : Rho} {H : Hp} {u : U} {v : V} (c : Con (gx X) ρ H u v) (h : isD2 u = true) : ∃ a, v = .ref a ∧ IsD H a := by
  cases u with
  | dK kvs => obtain ⟨a, vs, rfl, hd, _⟩ := c.dK; exact ⟨a, rfl, .inl ⟨_, hd⟩⟩
  | dT kvs => obtain ⟨a, vs, rfl, hd, _⟩ := c.dT; exact ⟨a, rfl, .inr ⟨_, hd⟩⟩
  | _ => cases h
def getM1 (md mk : M U) : M U := bd md fun d => bd (ct d) fun c => when (isD2 c) (bd mk fun k => bd (ct d) fun c' => bd (ct k) fun k' => match getO c' k' with
  | some r => ret (r.getD .non)
  | none => stk)
theorem se_get1 {apos cpos : Pos} (hu : X.A.units + 65 < cLine) (hd : SE0 X W o mo) (hk : SE0 X W e m) (hm : M1 X o "get" apos e cpos := by exact ⟨rfl, rfl, rfl, rfl⟩) : SE X W (.Call (.Attribute o "get" apos) [e] [] cpos) (getM1 mo m) := by
  obtain ⟨td, pd, hd⟩ := hd
  obtain ⟨tk, pk, hk⟩ := hk
  refine ⟨_, pe_dget1 (by omega) pd pk hm, fun ρ s σ H Q R k => ?_⟩
  refine hd ρ s σ H _ R (k.bd fun u s1 ρ1 H1 v _ x1 R1 r1 h1 => ?_)
  obtain ⟨c, c1, h2⟩ := ct_con R1 r1 h1
  obtain ⟨e1, h3⟩ := Ok.when h2
  obtain ⟨a, rfl, ha⟩ := isD2_ok c1 e1
  refine ⟨a, rfl, ha, ?_⟩
  refine hk ρ1 s1 σ H1 _ R1 (h3.bd fun kk s2 ρ2 H2 y _ x2 R2 r2 h4 => ?_)
  obtain ⟨c', c2, h5⟩ := ct_con R2 (r1.up x2.toUp) h4
  obtain ⟨k', c3, h6⟩ := ct_con R2 r2 h5
  cases q : getO c' k' with
  | none => rw [q] at h6; exact h6.elim
  | some r =>
    rw [q] at h6
    obtain ⟨a', o', ea, _, dg, h7, h8⟩ := get_ok c2 c3 q
    cases ea
    refine ⟨o', dg, ?_⟩
    cases r with
    | none => rw [h8 rfl]; exact h6.ret R2 .non
    | some u => obtain ⟨v, e2, r3⟩ := h7 u rfl; rw [e2]; exact h6.ret R2 r3
def getM2 (md mk mf : M U) : M U := bd md fun d => bd (ct d) fun c => when (isD2 c) (bd mk fun k => bd mf fun f => bd (ct d) fun c' => bd (ct k) fun k' => match getO c' k' with
  | some r => ret (r.getD f)
  | none => stk)
theorem se_get2 {apos cpos : Pos} (hu : X.A.units + 65 < cLine) (hd : SE0 X W o mo) (hk : SE0 X W e m) (hf : SE X W f ma) (hm : M2 X o "get" apos e f cpos := by exact ⟨rfl, rfl, rfl, rfl⟩) : SE X W (.Call (.Attribute o "get" apos) [e, f] [] cpos) (getM2 mo m ma) := by
  obtain ⟨td, pd, hd⟩ := hd
  obtain ⟨tk, pk, hk⟩ := hk
  obtain ⟨tf, pf, hf⟩ := hf
  refine ⟨_, pe_dget2 (by omega) pd pk pf hm, fun ρ s σ H Q R k => ?_⟩
  refine hd ρ s σ H _ R (k.bd fun u s1 ρ1 H1 v _ x1 R1 r1 h1 => ?_)
  obtain ⟨c, c1, h2⟩ := ct_con R1 r1 h1
  obtain ⟨e1, h3⟩ := Ok.when h2
  obtain ⟨a, rfl, ha⟩ := isD2_ok c1 e1
  refine ⟨a, rfl, ha, ?_⟩
  refine hk ρ1 s1 σ H1 _ R1 (h3.bd fun kk s2 ρ2 H2 y _ x2 R2 r2 h4 => ?_)
  refine hf ρ2 s2 σ H2 _ R2 (h4.bd fun ff s3 ρ3 H3 z _ x3 R3 r3 h5 => ?_)
  obtain ⟨c', c2, h6⟩ := ct_con R3 ((r1.up x2.toUp).up x3.toUp) h5
  obtain ⟨k', c3, h7⟩ := ct_con R3 (r2.up x3.toUp) h6
  cases q : getO c' k' with
  | none => rw [q] at h7; exact h7.elim
  | some r =>
    rw [q] at h7
    obtain ⟨a', o', ea, _, dg, h8, h9⟩ := get_ok c2 c3 q
    cases ea
    refine ⟨o', dg, ?_⟩
    cases r with
    | none => rw [h9 rfl]; exact h7.ret R3 r3
    | some u => obtain ⟨v, e2, r4⟩ := h8 u rfl; rw [e2]; exact h7.ret R3 r4
/-! lists that change -/
def appU (y : U) : U → Option U
  | .lst us => if us.length < sizeLine then some (.lst (us ++ [y])) else none
  | _ => none
def isLst : U → Bool
  | .lst _ => true
  | _ => false
def appM (mo m : M U) : M U := bd mo fun o => bd (ct o) fun c => when (isLst c) (bd m fun y => bd (upC o (appU y)) fun _ => ret .non)
theorem isLst_ok {ρ : Rho} {H : Hp} {u : U} {v : V} (c : Con (gx X) ρ H u v) (h : isLst u = true) : tyV X.K "list" v H := by
  cases u with
  | lst us => obtain ⟨a, vs, rfl, q, _⟩ := c.lst; exact .inl ⟨rfl, _, .of q⟩
  | _ => cases h
theorem se_append {apos cpos : Pos} (ho : SE0 X W o mo) (he : SE X W e m)
    (hbase : attributeBase o "append" X.env (eval o X.env) = eval o X.env := by rfl)
    (hfew : ((backTo cpos (starEach [e] X.env)).all (fun x => !x.1) && (backToKw cpos (keywordEach [] X.env)).all (fun x => x.1.isSome)
      && decide (([e] : List Expr).length + ([] : List Keyword).length + (if ([] : List Keyword).isEmpty then 0 else 1) < 30)) = true := by rfl)
    (hline : (apos.endLine == cpos.line) = true := by rfl) (hs : starEach [e] X.env = (false, eval e X.env) :: starEach [] X.env := by rfl) (hplain : (backTo cpos (starEach [] X.env)).any (·.1) = false := by rfl) :
    SE X W (.Call (.Attribute o "append" apos) [e] [] cpos) (appM mo m) := by
  obtain ⟨to, po, ho⟩ := ho
  obtain ⟨te, pe', he⟩ := he
  refine ⟨_, pe_bm PySem.F.plainAttrs_list PySem.F.slot_list_append PySem.F.type_list_append (mt_append) po (pa_cons pe' pa_nil hs) hbase hfew hline hs hplain, fun ρ s σ H Q R k => ?_⟩
  refine ho ρ s σ H _ R (k.bd fun u s1 ρ1 H1 v _ x1 R1 r1 h1 => ?_)
  obtain ⟨c, c1, h2⟩ := ct_con R1 r1 h1
  obtain ⟨e1, h3⟩ := Ok.when h2
  refine ⟨isLst_ok c1 e1, ?_⟩
  refine he ρ1 s1 σ H1 _ R1 (h3.bd fun y s2 ρ2 H2 z _ x2 R2 r2 h4 => ?_)
  rcases upC_ok (f := appU y) R2 (r1.up x2.toUp) with ⟨ad, cc, c', s', rfl, w, nz, ow, ef, es, hw⟩ | es
  · unfold bd at h4
    rw [es] at h4
    cases cc with
    | lst us =>
      have ef : (if us.length < sizeLine then some (U.lst (us ++ [y])) else none) = some c' := ef
      by_cases g : us.length < sizeLine
      · rw [if_pos g] at ef
        cases ef
        obtain ⟨vs, eh, r⟩ := ow
        have up2 : Up (gx X) ρ2 H2 ρ2 (upd H2 ad (.lst (vs ++ [z]))) := put_up w
        obtain ⟨x3, R3⟩ := hw (.lst (vs ++ [z])) ⟨_, upd_same, (r.app (.cons r2 .nil)).up up2⟩
        exact ⟨ad, vs, z, rfl, rfl, eh, by rw [← r.length]; exact g, h4 ρ2 _ .non x3 R3 .non⟩
      · rw [if_neg g] at ef; cases ef
    | _ => cases ef
  · unfold bd at h4
    rw [es] at h4; exact h4.elim
/-! o.pop(i), o.pop() -/
def popI (us : List U) (i : Int) : Option (U × List U) := (ixN us.length i).bind fun k => us[k]?.map fun y => (y, us.eraseIdx k)
def popP (i : Int) : U → Option (U × U)
  | .lst us => (popI us i).map fun p => (p.1, .lst p.2)
  | _ => none
/-- an object is changed, and something is told -/
def upX (o : U) (f : U → Option (U × U)) : M U := fun s => match o with
  | .slot i => (match s.env[i]? with
    | some (.own c) => (match f c with
      | some (y, c') => .ok y { s with env := s.env.set i (.own c') }
      | none => .stuck)
    | _ => .stuck)
  | .ref j => (match s.st[j]? with
    | some c => (match f c with
      | some (y, c') => .ok y { s with st := s.st.set j c' }
      | none => .stuck)
    | none => .stuck)
  | _ => .stuck
theorem upX_ok {G : Gx} {t : Option Addr} {ρ : Rho} {s : MS} {σ : L2.St} {H : Hp} {o : U} {v : V} {f : U → Option (U × U)} (R : RlT G t ρ s σ H) (r : RepE G ρ σ H o v) :
    (∃ a c y c' s', v = .ref a ∧ ρ.wr a ∧ ¬ ρ.Z a ∧ OwnS G ρ H c a ∧ f c = some (y, c') ∧ upX o f s = .ok y s' ∧ ∀ ho, Own G ρ (upd H a ho) c' a → Ext G ρ H ρ (upd H a ho) ∧ RlT G t ρ s' σ (upd H a ho)) ∨ upX o f s = .stuck := by
  cases o with
  | slot i =>
    have r : σ[i]? = some (some v) := r
    unfold upX
    dsimp only
    cases q : s.env[i]? with
    | none => exact .inr (by simp only [q])
    | some y =>
      cases y with
      | no => exact .inr (by simp only [q])
      | val u => exact .inr (by simp only [q])
      | own c =>
        simp only [q]
        cases e : f c with
        | none => exact .inr rfl
        | some p =>
          obtain ⟨y, c'⟩ := p
          obtain ⟨a, h1, h2, h3⟩ := R.own i c q
          rw [h1] at r; cases r
          exact .inl ⟨a, c, y, c', _, rfl, Rho.At.wr (.s h2), (fun z => nomatch (R.dj _ _ a (.s h2) (.z z))), h3.s, e, rfl, fun ho ow => R.putS q h2 ow⟩
  | ref j =>
    have r : Rep G ρ H (.ref j) v := r
    unfold upX
    dsimp only
    cases q : s.st[j]? with
    | none => exact .inr (by simp only [q])
    | some c =>
      simp only [q]
      cases e : f c with
      | none => exact .inr rfl
      | some p =>
        obtain ⟨y, c'⟩ := p
        obtain ⟨a, h2, h3⟩ := R.sto j c q
        cases r with
        | ref h =>
          rw [h2] at h; cases h
          exact .inl ⟨a, c, y, c', _, rfl, Rho.At.wr (.j h2), (fun z => nomatch (R.dj _ _ a (.j h2) (.z z))), h3, e, rfl, fun ho ow => R.putJ q h2 ow⟩
  | _ => exact .inr rfl
def popM (mo mi : M U) : M U := bd mo fun o => bd (ct o) fun c => when (isLst c) (bd mi fun i => match i with
  | .int i => when (decide (-(2 ^ 63) ≤ i) && decide (i < 2 ^ 63)) (upX o (popP i))
  | _ => stk)
theorem Reps.erase {G : Gx} {ρ : Rho} {H : Hp} : ∀ {us : List U} {vs : List V} (k : Nat), Reps G ρ H us vs → Reps G ρ H (us.eraseIdx k) (vs.eraseIdx k)
  | _, _, _, .nil => .nil
  | _, _, 0, .cons _ r => r
  | _, _, k + 1, .cons h r => .cons h (Reps.erase k r)
theorem pop_ok {us : List U} {vs : List V} {G : Gx} {ρ : Rho} {H : Hp} {i : Int} {p : U × List U} (r : Reps G ρ H us vs) (e : popI us i = some p) : ∃ k v, seqIndex? i vs.length = some k ∧ vs[k]? = some v ∧ Rep G ρ H p.1 v ∧ p.2 = us.eraseIdx k := by
  unfold popI at e
  cases q : ixN us.length i with
  | none => rw [q] at e; cases e
  | some k =>
    rw [q] at e
    have e : (us[k]?).map (fun y => (y, us.eraseIdx k)) = some p := e
    cases q2 : us[k]? with
    | none => rw [q2] at e; cases e
    | some y =>
      rw [q2] at e
      cases e
      obtain ⟨v, e1, r1⟩ := r.get q2
      rw [r.length] at q
      exact ⟨k, v, (ixN_seq q).1, e1, r1, rfl⟩
theorem se_popAt {apos cpos : Pos} (ho : SE0 X W o mo) (he : SE X W e m)
    (hbase : attributeBase o "pop" X.env (eval o X.env) = eval o X.env := by rfl)
    (hfew : ((backTo cpos (starEach [e] X.env)).all (fun x => !x.1) && (backToKw cpos (keywordEach [] X.env)).all (fun x => x.1.isSome)
      && decide (([e] : List Expr).length + ([] : List Keyword).length + (if ([] : List Keyword).isEmpty then 0 else 1) < 30)) = true := by rfl)
    (hline : (apos.endLine == cpos.line) = true := by rfl) (hs : starEach [e] X.env = (false, eval e X.env) :: starEach [] X.env := by rfl) (hplain : (backTo cpos (starEach [] X.env)).any (·.1) = false := by rfl) :
    SE X W (.Call (.Attribute o "pop" apos) [e] [] cpos) (popM mo m) := by
  obtain ⟨to, po, ho⟩ := ho
  obtain ⟨te, pe', he⟩ := he
  refine ⟨_, pe_bm PySem.F.plainAttrs_list PySem.F.slot_list_pop PySem.F.type_list_pop (mt_popAt) po (pa_cons pe' pa_nil hs) hbase hfew hline hs hplain, fun ρ s σ H Q R k => ?_⟩
  refine ho ρ s σ H _ R (k.bd fun u s1 ρ1 H1 v _ x1 R1 r1 h1 => ?_)
  obtain ⟨c, c1, h2⟩ := ct_con R1 r1 h1
  obtain ⟨e1, h3⟩ := Ok.when h2
  refine ⟨isLst_ok c1 e1, ?_⟩
  refine he ρ1 s1 σ H1 _ R1 (h3.bd fun y s2 ρ2 H2 z _ x2 R2 r2 h4 => ?_)
  cases r2 with
  | @int i =>
    have h4 : OkV X W ρ2 σ H2 (when (decide (-(2 ^ 63) ≤ i) && decide (i < 2 ^ 63)) (upX u (popP i)) s2) Q := h4
    obtain ⟨g, h6⟩ := Ok.when h4
    rw [Bool.and_eq_true] at g
    rcases upX_ok (f := popP i) R2 (r1.up x2.toUp) with ⟨ad, cc, y, c', s', rfl, w, nz, ow, ef, es, hw⟩ | es
    · rw [es] at h6
      cases cc with
      | lst us =>
        have ef : (popI us i).map (fun p => (p.1, U.lst p.2)) = some (y, c') := ef
        cases q : popI us i with
        | none => rw [q] at ef; cases ef
        | some p =>
          rw [q] at ef
          cases ef
          obtain ⟨vs, eh, r⟩ := ow
          obtain ⟨k, v, e1, e2, r3, e4⟩ := pop_ok r q
          have up2 : Up (gx X) ρ2 H2 ρ2 (upd H2 ad (.lst (vs.eraseIdx k))) := put_up w
          obtain ⟨x3, R3⟩ := hw (.lst (vs.eraseIdx k)) ⟨_, upd_same, by rw [e4]; exact (r.erase k).up up2⟩
          exact ⟨ad, vs, i, k, v, rfl, rfl, eh, of_decide_eq_true g.1, of_decide_eq_true g.2, e1, e2, h6 ρ2 _ v x3 R3 (r3.up up2)⟩
      | _ => cases ef
    · rw [es] at h6; exact h6.elim
  | _ => exact h4.elim
end
end Mi

/-! Mini X: the special methods of own classes: ==, !=, in, len, repr, +, -, * of two. -/
namespace HN
open PySem PySem.Spec PyProof.Rows
section
variable {prog : Program} {w : World} {A : Around} {E : Value → Shared → Prop} {s : Shared} {K : PySem.W.Frag} {x C f : Addr} {ox : Obj} {od : Option Obj} {b tb : Value}
theorem objNe_own {Q : Fin → Shared → Prop} (X : K.In s.heap) (I : PySem.W.InstAt s.heap x ox C od) (hu : A.units < cLine) (hs : PySem.W.findIn K (.ref C) "__eq__" = some (some (.ref f))) (hf : PySem.W.isFn K (.ref f) = true)
    (hcall : wpAny (model prog w) A (call (.ref f) [.ref x, b]) (fun v s' => ∃ r, v = .bool r ∧ Q (.done (.ret (.bool (!r)))) s') E s) :
    wpAny (model prog w) A (Builtin.«object.__ne__» ⟨[.ref x, b], []⟩) Q E s := by
  unfold Builtin.«object.__ne__»
  repeat (first
    | with_reducible refine wpAny_cRoomFor hu ?_
    | (refine wpAny_bind (m := callSpecialIfBound? (.ref x) (Str.ofString "__eq__") [b])
        (PySem.W.ifBound_K X I hs hf (wpAny_mono hcall (fun r s' hr => by
          obtain ⟨b, rfl, hq⟩ := hr
          repeat (first | exact hq | exact wpAny_pure hq | exact wpAny_truthy_bool hq | (refine wpAny_bind (m := truthy (.bool _)) (wpAny_truthy_bool ?_)) | wp_step)) fun _ _ e => e)))
    | wp_step)
theorem ifBound_objNe {M : Model} {args : List Value} {Q : Option Value → Shared → Prop} (X : K.In s.heap) (I : PySem.W.InstAt s.heap x ox C od) (hs : PySem.W.findIn K (.ref C) "__ne__" = some (some (.builtin "object.__ne__")))
    (h : wpAny M A (call (.builtin "object.__ne__") (.ref x :: args)) (fun v => Q (some v)) E s) : wpAny M A (callSpecialIfBound? (.ref x) "__ne__" args) Q E s := by
  simp only [callSpecialIfBound?, bindSpecialIfBound?]
  refine wpAny_holding (wpAny_bind (wpAny_bind (wpAny_bind (I.type.here ((PySem.W.looks_findIn X hs).here ?_)))))
  refine wpAny_bind (wpAny_askSetting (wpAny_ite ?_))
  have fin : wpAny M A (call (.builtin "object.__ne__") ([.ref x] ++ args) >>= fun v => pure (some v)) Q E s := wpAny_bind (wpAny_mono h (fun v s' h' => wpAny_pure h') fun _ _ h' => h')
  split
  · exact wpAny_bind (wpAny_of_eq (F.cmp_object.ne.bind _) (wpAny_pure (by exact fin)))
  · exact wpAny_tryCatch (wpAny_bind (wpAny_of_eq (F.cmp_object.ne.bind _) (wpAny_pure (by exact fin))))
theorem ne_K {Q : Value → Shared → Prop} (hu : A.units + 1 < cLine) (X : K.In s.heap) (I : PySem.W.InstAt s.heap x ox C od) (hb : PySem.W.Looks (model prog w) s.heap (typeOf b) tb) (hn : PySem.W.notFirst K C tb = true)
    (hs : PySem.W.findIn K (.ref C) "__eq__" = some (some (.ref f))) (hf : PySem.W.isFn K (.ref f) = true) (hne : PySem.W.findIn K (.ref C) "__ne__" = some (some (.builtin "object.__ne__"))) (hm : PySem.W.mroIn K C (.type "object") = some true)
    (h : wpAny (model prog w) A.in1 (call (.ref f) [.ref x, b]) (fun v s' => ∃ r, v = .bool r ∧ Q (.bool (!r)) s') E s) : wpAny (model prog w) A (richCompare .NotEq (.ref x) b) Q E s := by
  have one : wpAny (model prog w) A (tryCompare (.ref x) "__ne__" b) (fun r s' => ∃ v, r = some v ∧ Q v s') E s := by
    unfold tryCompare
    refine wpAny_bind (ifBound_objNe X I hne (wpAny_call (codeAny_call_builtin F.cmp_object.ne.plain F.cmpEntry_ne (PySem.W.check_slot F.cmpKind_ne F.cmpSplit_ne (I.type.andThen (PySem.W.looks_mroIn X hm)) (F.cmpArgs_ne _ _)
      (objNe_own (A := A.in1) X I hu hs hf (wpAny_mono h (fun v s' hv => ?_) fun _ _ e => e))))))
    obtain ⟨r, rfl, hq⟩ := hv
    first | exact ⟨r, rfl, wpAny_pure ⟨_, rfl, hq⟩⟩ | exact ⟨r, rfl, ⟨_, rfl, hq⟩⟩
  unfold richCompare
  simp only [oneThing_ref, cmpInfo_NotEq]
  refine wpAny_holding (wpAny_bind (wpAny_cRoomFor (by omega) ?_))
  refine wpAny_bind (I.type.here (wpAny_bind (hb.here ?_)))
  split
  · rename_i q
    have e : PySem.W.subIn K tb (.ref C) = some false := by
      rcases Bool.or_eq_true_iff.mp hn with e | e
      · rw [beq_iff_eq.mp e] at q; simp at q
      · exact beq_iff_eq.mp e
    refine wpAny_bind ((PySem.W.looks_subIn X e).here ?_)
    simp only [Bool.false_eq_true, if_false]
    refine wpAny_bind (wpAny_mono one (fun r s' z => ?_) fun _ _ e => e)
    obtain ⟨v, rfl, hq⟩ := z
    exact wpAny_pure hq
  · refine wpAny_bind (wpAny_pure ?_)
    simp only [Bool.false_eq_true, if_false]
    refine wpAny_bind (wpAny_mono one (fun r s' z => ?_) fun _ _ e => e)
    obtain ⟨v, rfl, hq⟩ := z
    exact wpAny_pure hq
end
end HN
namespace Mi
open PySem PySem.Spec PyProof.Rows L2
/-- a rule that may call: values, at the slots σ -/
def rS (X : Cx) (W : WX) (g : U → U → M U) (σ : L2.St) : R2 := fun v w H Q => ∃ ρ s x y, Rl (gx X) ρ s σ H ∧ Rep (gx X) ρ H x v ∧ Rep (gx X) ρ H y w ∧ OkV X W ρ σ H (g x y s) Q
def OpS (X : Cx) (f : Value → Value → Sem Value) (r : L2.St → R2) : Prop := ∀ (pins : List (Addr × Obj)) (s : Shared) (σ : L2.St) (H : Hp) (x y : V) (v u : Value) (Q : VK), Inv X pins σ H s → RelV x v → RelV y u → r σ x y H Q → wpAny (model X.prog X.w) X.A (f v u) (EP X pins σ Q) X.xe s
def binS (g : U → U → M U) (ma mb : M U) : M U := bd ma fun x => bd mb fun y => g x y
section
variable {X : Cx} {W : WX} {e a b c o tg : Expr} {es rest : List Expr} {m ma mb mc : M U} {ms : M (List U)} {mt mt2 : M Bool} {pos : Pos}
def tS (r : L2.St → R2) (ta tb : TE) : TE := fun σ H Q => ta σ H fun x H1 => tb σ H1 fun y H2 => r σ x y H2 Q
theorem binS_run {g : U → U → M U} {ta tb : TE} (ha : ∀ ρ s σ H Q, Rl (gx X) ρ s σ H → OkV X W ρ σ H (ma s) Q → ta σ H Q) (hb : ∀ ρ s σ H Q, Rl (gx X) ρ s σ H → OkV X W ρ σ H (mb s) Q → tb σ H Q)
    {ρ : Rho} {s : MS} {σ : L2.St} {H : Hp} {Q : VK} (R : Rl (gx X) ρ s σ H) (h : OkV X W ρ σ H (binS g ma mb s) Q) : tS (rS X W g) ta tb σ H Q := by
  refine ha ρ s σ H _ R (h.bd fun u s1 ρ1 H1 v _ x1 R1 r1 h1 => ?_)
  refine hb ρ1 s1 σ H1 _ R1 (h1.bd fun w s2 ρ2 H2 z _ x2 R2 r2 h2 => ?_)
  exact ⟨ρ2, s2, u, w, R2, r1.up x2.toUp, r2, h2⟩
theorem se_binS {op : Operator} {g : U → U → M U} (ho : OpS X (binaryOp op) (rS X W g)) (ha : SE X W a ma) (hb : SE X W b mb) : SE X W (.BinOp a op b pos) (binS g ma mb) := by
  obtain ⟨ta, pa, ha⟩ := ha
  obtain ⟨tb, pb, hb⟩ := hb
  refine ⟨tS (rS X W g) ta tb, ⟨fun pins s σ H Q I h => ?_⟩, fun ρ s σ H Q R h => binS_run ha hb R h⟩
  exact wpAny_BinOp (thn (pa.run pins s σ H _ I h) fun v s1 ⟨x, H1, I1, r1, q1⟩ => thn (pb.run pins s1 σ H1 _ I1 q1) fun u s2 ⟨y, H2, I2, r2, q2⟩ => ho pins s2 σ H2 x y v u Q I2 r1 r2 q2)
theorem se_cmpS {op : CmpOp} {g : U → U → M U} (ho : OpS X (compareOp op) (rS X W g)) (hm : behindInMarks op b = false) (ha : SE X W a ma) (hb : SE X W b mb) : SE X W (.Compare a [op] [b] pos) (binS g ma mb) := by
  obtain ⟨ta, pa, ha⟩ := ha
  obtain ⟨tb, pb, hb⟩ := hb
  refine ⟨tS (rS X W g) ta tb, ⟨fun pins s σ H Q I h => ?_⟩, fun ρ s σ H Q R h => binS_run ha hb R h⟩
  exact wpAny_Compare1 (thn (pa.run pins s σ H _ I h) fun v s1 ⟨x, H1, I1, r1, q1⟩ => thn (pb.run pins s1 σ H1 _ I1 q1) fun u s2 ⟨y, H2, I2, r2, q2⟩ => ho pins s2 σ H2 x y v u Q I2 r1 r2 q2) hm
theorem st_cmpS {op : CmpOp} {g : U → U → M U} (ho : OpS X (compareOp op) (rS X W g)) (hm : behindInMarks op b = false) (ha : SE X W a ma) (hb : SE X W b mb) : ST X W (.Compare a [op] [b] pos) (bd (binS g ma mb) asB) := by
  obtain ⟨ta, pa, ha⟩ := ha
  obtain ⟨tb, pb, hb⟩ := hb
  refine ⟨fun σ H Q => tS (rS X W g) ta tb σ H fun x H' => ∃ k, x = .bl k ∧ Q k H', ⟨fun pins s σ H Q I h => ?_⟩, fun ρ s σ H Q R h => ?_⟩
  · refine wpAny_isTrue_Compare1 (thn (pa.run pins s σ H _ I h) fun v s1 ⟨x, H1, I1, r1, q1⟩ => thn (pb.run pins s1 σ H1 _ I1 q1) fun u s2 ⟨y, H2, I2, r2, q2⟩ =>
      thn (ho pins s2 σ H2 x y v u _ I2 r1 r2 q2) fun c s3 ⟨z, H3, I3, r3, k, e, q3⟩ => ?_) hm
    subst e
    cases r3
    exact wpAny_truthy_bool ⟨H3, I3, q3⟩
  · refine binS_run ha hb R (h.bd fun u s1 ρ1 H1 v _ x1 R1 r1 h1 => ?_)
    cases r1 with
    | bl => exact ⟨_, rfl, h1.ret R1 rfl⟩
    | _ => exact h1.elim
/-! ### == and != of two of a class -/
def eqG (neg : Bool) (cn : Str) (g : F) (x y : U) : M U := bd (ct x) fun x' => bd (ct y) fun y' => match x', y' with
  | .obj c _, .obj d _ => when (decide (c = cn) && decide (d = cn)) (bd (callF g [x, y]) fun r => match r with
    | .bl b => ret (.bl (xor neg b))
    | _ => stk)
  | _, _ => stk
structure EqOf (G : Gx) (cn : Str) (C f : Addr) : Prop extends DunOf G cn "__eq__" C f where
  ne : PySem.W.findIn G.K (.ref C) "__ne__" = some (some (.builtin "object.__ne__"))
  mo : PySem.W.mroIn G.K C (.type "object") = some true
/-- what both have in common -/
theorem eqG_run {neg : Bool} {cn : Str} {C f : Addr} {g : F} (T : EqOf (gx X) cn C f) {ρ : Rho} {s : MS} {σ : L2.St} {H : Hp} {x y : U} {v w : V} {Q : VK} (R : Rl (gx X) ρ s σ H) (rx : Rep (gx X) ρ H x v) (ry : Rep (gx X) ρ H y w) (h : OkV X W ρ σ H (eqG neg cn g x y s) Q) :
    ∃ a b dx dy fs gs, v = .ref a ∧ w = .ref b ∧ H a = some (.ins C dx fs) ∧ H b = some (.ins C dy gs) ∧ spR (gx X) g [v, w] H (fun z H' => ∃ k, z = .bl k ∧ Q (.bl (xor neg k)) H') (WE W σ) := by
  obtain ⟨x', c1, h1⟩ := ct_con R rx.e h
  obtain ⟨y', c2, h2⟩ := ct_con R ry.e h1
  cases x' with
  | obj cc us =>
    cases y' with
    | obj dd ws =>
      obtain ⟨a, C', dx, vs, rfl, mc, ea, _⟩ := c1.obj
      obtain ⟨b, D', dy, vs', rfl, md, eb, _⟩ := c2.obj
      dsimp only at h2
      obtain ⟨e1, h3⟩ := Ok.when h2
      rw [Bool.and_eq_true] at e1
      have ec := of_decide_eq_true e1.1
      have ed := of_decide_eq_true e1.2
      subst ec
      subst ed
      have mc : X.mg dd = some (.ref C') := mc
      have md : X.mg dd = some (.ref D') := md
      rw [show X.mg dd = some (.ref C) from T.mc] at mc md
      cases mc
      cases md
      refine ⟨a, b, dx, dy, vs, vs', rfl, rfl, ea, eb, ?_⟩
      refine callU_run R (.cons rx (.cons ry .nil)) (h3.bd fun r s1 ρ1 H1 z _ x1 R1 r1 h4 => ?_)
      cases r1 with
      | bl => exact ⟨_, rfl, h4.ret R1 .bl⟩
      | _ => exact h4.elim
    | _ => exact h2.elim
  | _ => exact h2.elim
theorem ops_eq {cn : Str} {k : Nat} {C f : Addr} {g : F} (T : EqOf (gx X) cn C f) (Fn : FnU X.prog X.w (gx X) X.base k f g) (tk : Takes X W) (hr : Room (k + 1) X.A) : OpS X (compareOp .Eq) (rS X W (eqG false cn g)) := by
  intro pins s σ H x y v u Q I rx ry ⟨ρ, s', x', y', R, r1, r2, h⟩
  obtain ⟨a, b, dx, dy, fs, gs, rfl, rfl, ea, eb, q⟩ := eqG_run T R r1 r2 h
  cases rx
  cases ry
  obtain ⟨mA, J, _⟩ := ins_get I.hok ea
  obtain ⟨mB, J', _⟩ := ins_get I.hok eb
  obtain ⟨od, J, _⟩ := J.look
  obtain ⟨od', J', _⟩ := J'.look
  obtain ⟨m, hF⟩ := I.fr
  show wpAny _ _ (richCompare .Eq (.ref a) (.ref b)) _ _ _
  refine PySem.W.cmp_K (op := .Eq) (tb := .ref C) hr.units0 hF I.ok.mod.kin J J'.type (by simp [PySem.W.notFirst]) T.at_ T.fn ?_
  refine wpAny_mono (runU (us := [.ref a, .ref b]) (vs := [.ref a, .ref b]) Fn tk (hr.mono (Nat.le_succ _)) I.env0 I (.cons rfl (.cons rfl .nil)) q) (fun z s2 ⟨r, H2, I2, rz, k, ez, q2⟩ => ?_) fun _ _ e => e
  subst ez
  cases rz
  exact ⟨.bl k, H2, I2, rfl, by simpa using q2⟩
theorem ops_ne {cn : Str} {k : Nat} {C f : Addr} {g : F} (T : EqOf (gx X) cn C f) (Fn : FnU X.prog X.w (gx X) X.base k f g) (tk : Takes X W) (hr : Room (k + 1) X.A) : OpS X (compareOp .NotEq) (rS X W (eqG true cn g)) := by
  intro pins s σ H x y v u Q I rx ry ⟨ρ, s', x', y', R, r1, r2, h⟩
  obtain ⟨a, b, dx, dy, fs, gs, rfl, rfl, ea, eb, q⟩ := eqG_run T R r1 r2 h
  cases rx
  cases ry
  obtain ⟨mA, J, _⟩ := ins_get I.hok ea
  obtain ⟨mB, J', _⟩ := ins_get I.hok eb
  obtain ⟨od, J, _⟩ := J.look
  obtain ⟨od', J', _⟩ := J'.look
  show wpAny _ _ (richCompare .NotEq (.ref a) (.ref b)) _ _ _
  refine HN.ne_K (tb := .ref C) (by have := hr.un; omega) I.kIn J J'.type (by simp [PySem.W.notFirst]) T.at_ T.fn T.ne T.mo ?_
  refine wpAny_mono (runU (us := [.ref a, .ref b]) (vs := [.ref a, .ref b]) Fn tk hr.in1 I.env0.in1 I (.cons rfl (.cons rfl .nil)) q) (fun z s2 ⟨r, H2, I2, rz, k, ez, q2⟩ => ?_) fun _ _ e => e
  subst ez
  cases rz
  exact ⟨k, rfl, .bl (!k), H2, I2, rfl, by simpa using q2⟩
/-! ### x in an instance -/
def inG (neg : Bool) (cn : Str) (g : F) (x y : U) : M U := bd (ct y) fun y' => match y' with
  | .obj c _ => when (decide (c = cn)) (bd (callF g [y, x]) fun r => match r with
    | .bl b => ret (.bl (xor neg b))
    | _ => stk)
  | _ => stk
theorem inG_run {neg : Bool} {cn : Str} {C : Addr} {g : F} (mcn : X.mg cn = some (.ref C)) {ρ : Rho} {s : MS} {σ : L2.St} {H : Hp} {x y : U} {v w : V} {Q : VK} (R : Rl (gx X) ρ s σ H) (rx : Rep (gx X) ρ H x v) (ry : Rep (gx X) ρ H y w) (h : OkV X W ρ σ H (inG neg cn g x y s) Q) :
    ∃ b dy gs, w = .ref b ∧ H b = some (.ins C dy gs) ∧ spR (gx X) g [w, v] H (fun z H' => ∃ k, z = .bl k ∧ Q (.bl (xor neg k)) H') (WE W σ) := by
  obtain ⟨y', c2, h2⟩ := ct_con R ry.e h
  cases y' with
  | obj dd ws =>
    obtain ⟨b, D', dy, vs', rfl, md, eb, _⟩ := c2.obj
    dsimp only at h2
    obtain ⟨e1, h3⟩ := Ok.when h2
    have ed := of_decide_eq_true e1
    subst ed
    have md : X.mg dd = some (.ref D') := md
    rw [mcn] at md
    cases md
    refine ⟨b, dy, vs', rfl, eb, ?_⟩
    refine callU_run R (.cons ry (.cons rx .nil)) (h3.bd fun r s1 ρ1 H1 z _ x1 R1 r1 h4 => ?_)
    cases r1 with
    | bl => exact ⟨_, rfl, h4.ret R1 .bl⟩
    | _ => exact h4.elim
  | _ => exact h2.elim
theorem ops_in {cn : Str} {k : Nat} {C f : Addr} {g : F} (T : DunOf (gx X) cn "__contains__" C f) (Fn : FnU X.prog X.w (gx X) X.base k f g) (tk : Takes X W) (hr : Room (k + 1) X.A) : OpS X (compareOp .In) (rS X W (inG false cn g)) := by
  intro pins s σ H x y v u Q I rx ry ⟨ρ, s', x', y', R, r1, r2, h⟩
  obtain ⟨b, dy, gs, rfl, eb, q⟩ := inG_run T.mc R r1 r2 h
  cases ry
  obtain ⟨mB, J', _⟩ := ins_get I.hok eb
  obtain ⟨od', J', _⟩ := J'.look
  obtain ⟨m, hF⟩ := I.fr
  refine PySem.W.in_K hF I.ok.mod.kin J' T.at_ T.fn (wpAny_mono (runU (us := [.ref b, v]) (vs := [.ref b, x]) Fn tk (hr.mono (Nat.le_succ _)) I.env0 I (.cons rfl (.cons rx .nil)) q) (fun z s2 ⟨r, H2, I2, rz, k, ez, q2⟩ => ?_) fun _ _ e => e)
  subst ez
  cases rz
  exact wpAny_truthy_bool ⟨.bl k, H2, I2, rfl, by simpa using q2⟩
theorem ops_notin {cn : Str} {k : Nat} {C f : Addr} {g : F} (T : DunOf (gx X) cn "__contains__" C f) (Fn : FnU X.prog X.w (gx X) X.base k f g) (tk : Takes X W) (hr : Room (k + 1) X.A) : OpS X (compareOp .NotIn) (rS X W (inG true cn g)) := by
  intro pins s σ H x y v u Q I rx ry ⟨ρ, s', x', y', R, r1, r2, h⟩
  obtain ⟨b, dy, gs, rfl, eb, q⟩ := inG_run T.mc R r1 r2 h
  cases ry
  obtain ⟨mB, J', _⟩ := ins_get I.hok eb
  obtain ⟨od', J', _⟩ := J'.look
  obtain ⟨m, hF⟩ := I.fr
  refine PySem.W.notIn_K hF I.ok.mod.kin J' T.at_ T.fn (wpAny_mono (runU (us := [.ref b, v]) (vs := [.ref b, x]) Fn tk (hr.mono (Nat.le_succ _)) I.env0 I (.cons rfl (.cons rx .nil)) q) (fun z s2 ⟨r, H2, I2, rz, k, ez, q2⟩ => ?_) fun _ _ e => e)
  subst ez
  cases rz
  exact wpAny_truthy_bool ⟨.bl (!k), H2, I2, rfl, by simpa using q2⟩
/-! ### a + b, a - b of two of a class -/
def opG (cn : Str) (g : F) (x y : U) : M U := bd (ct x) fun x' => bd (ct y) fun y' => match x', y' with
  | .obj c _, .obj d _ => when (decide (c = cn) && decide (d = cn)) (callF g [x, y])
  | _, _ => stk
/-! ### len(o), repr(o) -/
def oneG (cn : Str) (g : F) (mo : M U) (p : U → Bool) : M U := bd mo fun x => bd (ct x) fun x' => match x' with
  | .obj c _ => when (decide (c = cn)) (bd (callF g [x]) fun r => when (p r) (ret r))
  | _ => stk
def isLen : U → Bool
  | .int i => decide (0 ≤ i) && decide (i < 2 ^ 63)
  | _ => false
def isStr : U → Bool
  | .str _ => true
  | _ => false
def OneQ (X : Cx) (W : WX) (C : Addr) (g : F) (p : U → Bool) (σ : L2.St) (Q : VK) (vs : List V) (H1 : Hp) : Prop := ∃ a dx fs, vs = [.ref a] ∧ H1 a = some (.ins C dx fs) ∧ spR (gx X) g [.ref a] H1 (fun z H' => ∃ r ρ', p r = true ∧ Rep (gx X) ρ' H' r z ∧ Q z H') (WE W σ)
theorem oneG_run {cn : Str} {C : Addr} {g : F} {p : U → Bool} (mcn : X.mg cn = some (.ref C)) {t : TE} (ha : ∀ ρ s σ H Q, Rl (gx X) ρ s σ H → OkV X W ρ σ H (m s) Q → t σ H Q) {ρ : Rho} {s : MS} {σ : L2.St} {H : Hp} {Q : VK} (R : Rl (gx X) ρ s σ H) (h : OkV X W ρ σ H (oneG cn g m p s) Q) :
    t σ H fun x H1 => OneQ X W C g p σ Q [x] H1 := by
  refine ha ρ s σ H _ R (h.bd fun x s1 ρ1 H1 v _ x1 R1 r1 h1 => ?_)
  obtain ⟨x', c1, h2⟩ := ct_con R1 r1.e h1
  cases x' with
  | obj cc us =>
    obtain ⟨a, C', dx, vs, rfl, mc, ea, _⟩ := c1.obj
    dsimp only at h2
    obtain ⟨e1, h3⟩ := Ok.when h2
    have ec := of_decide_eq_true e1
    subst ec
    have mc : X.mg cc = some (.ref C') := mc
    rw [mcn] at mc
    cases mc
    refine ⟨a, dx, vs, rfl, ea, callU_run R1 (.cons r1 .nil) (h3.bd fun r s2 ρ2 H2 z _ x2 R2 r2 h4 => ?_)⟩
    obtain ⟨e2, h5⟩ := Ok.when h4
    exact ⟨r, ρ2, e2, r2, h5.ret R2 r2⟩
  | _ => exact h2.elim
theorem se_lenO {cn : Str} {k : Nat} {C f : Addr} {g : F} {p : Pos} (T : DunOf (gx X) cn "__len__" C f) (Fn : FnU X.prog X.w (gx X) X.base k f g) (tk : Takes X W) (hr : Room (k + 1) X.A) (hg : Gl X "len") (hm : X.mg "len" = none) (ha : SE X W a m)
    (he : starEach [a] X.env = (false, eval a X.env) :: starEach [] X.env := by rfl) (hpl : (backTo pos (starEach [] X.env)).any (·.1) = false := by rfl) : SE X W (.Call (.Name "len" p) [a] [] pos) (oneG cn g m isLen) := by
  obtain ⟨t, pa, ha⟩ := ha
  refine ⟨fun σ H Q => t σ H fun x H1 => OneQ X W C g isLen σ Q [x] H1, ⟨fun pins s σ H Q I h => ?_⟩, fun ρ s σ H Q R h => oneG_run T.mc ha R h⟩
  refine wpAny_Call_Name_kw (ld_blt I hg hm PySem.boot_len ?_ (by decide) (by decide))
  refine PyProof.Rows.callWith_builtin1 (thn ((pa_cons pa pa_nil he).run pos pins s σ H (OneQ X W C g isLen σ Q) I h) fun us s1 ⟨vs, H1, I1, r1, b, dx, fs, ev, eb, q⟩ => ?_) he hpl
  subst ev
  cases r1 with
  | cons r1 r2 =>
    cases r2
    cases r1
    obtain ⟨mB, J', _⟩ := ins_get I1.hok eb
    obtain ⟨od', J', _⟩ := J'.look
    obtain ⟨m, hF⟩ := I1.fr
    refine PySem.W.len_K hF I1.ok.mod.kin J' T.at_ T.fn (wpAny_mono (runU (us := [.ref b]) (vs := [.ref b]) Fn tk hr.in1 I1.env0.in1 I1 (.cons rfl .nil) q) (fun z s2 ⟨r, H2, I2, rz, w, ρ', ew, rw_, q2⟩ => ?_) fun _ _ e => e)
    cases w with
    | int i =>
      cases rw_
      obtain ⟨tt, rfl⟩ := rz
      have ew : (decide (0 ≤ i) && decide (i < 2 ^ 63)) = true := ew
      rw [Bool.and_eq_true] at ew
      exact ⟨⟨of_decide_eq_true ew.1, of_decide_eq_true ew.2⟩, .int i, H2, I2.tok _, ⟨_, rfl⟩, q2⟩
    | _ => cases ew
theorem se_reprO {cn : Str} {k : Nat} {C f : Addr} {g : F} {p : Pos} (T : DunOf (gx X) cn "__repr__" C f) (Fn : FnU X.prog X.w (gx X) X.base k f g) (tk : Takes X W) (hr : Room (k + 1) X.A) (hg : Gl X "repr") (hm : X.mg "repr" = none) (ha : SE X W a m)
    (he : starEach [a] X.env = (false, eval a X.env) :: starEach [] X.env := by rfl) (hpl : (backTo pos (starEach [] X.env)).any (·.1) = false := by rfl) (hb : bootBuiltins "repr" = some (.builtin "repr") := by decide +kernel) : SE X W (.Call (.Name "repr" p) [a] [] pos) (oneG cn g m isStr) := by
  obtain ⟨t, pa, ha⟩ := ha
  refine ⟨fun σ H Q => t σ H fun x H1 => OneQ X W C g isStr σ Q [x] H1, ⟨fun pins s σ H Q I h => ?_⟩, fun ρ s σ H Q R h => oneG_run T.mc ha R h⟩
  refine wpAny_Call_Name_kw (ld_blt I hg hm hb ?_ (by decide) (by decide))
  refine PyProof.Rows.callWith_builtin1 (thn ((pa_cons pa pa_nil he).run pos pins s σ H (OneQ X W C g isStr σ Q) I h) fun us s1 ⟨vs, H1, I1, r1, b, dx, fs, ev, eb, q⟩ => ?_) he hpl
  subst ev
  cases r1 with
  | cons r1 r2 =>
    cases r2
    cases r1
    obtain ⟨mB, J', _⟩ := ins_get I1.hok eb
    obtain ⟨od', J', _⟩ := J'.look
    obtain ⟨m, hF⟩ := I1.fr
    refine PySem.W.repr_K hr.in1.units0 hF I1.ok.mod.kin J' T.at_ T.fn (wpAny_mono (runU (us := [.ref b]) (vs := [.ref b]) Fn tk hr.in1 I1.env0.in1 I1 (.cons rfl .nil) q) (fun z s2 ⟨r, H2, I2, rz, w, ρ', ew, rw_, q2⟩ => ?_) fun _ _ e => e)
    cases w with
    | str i =>
      cases rw_
      obtain ⟨tt, rfl⟩ := rz
      exact ⟨.str i, H2, I2, ⟨_, rfl⟩, q2⟩
    | _ => cases ew
end
end Mi

/-! Mini Y: sets of texts: made of a text's signs, told as the sorted list. -/
namespace Mi
open PySem PySem.Spec PyProof.Rows L2

def ttx (e : Int × Value) : Str := match e.2 with | .str k _ => k | _ => Str.empty
def TxE (P : Program) (w : World) (e : Int × Value) : Prop := ∃ k tk, e = ((PySem.strKind P w).hash k, Value.str k tk)
def insT (l : List Str) (k : Str) : List Str := if k ∈ l then l else k :: l
/-- at a: the set of the texts of l -/
def TxSet (P : Program) (w : World) (h : Heap) (a : Addr) (l : List Str) : Prop :=
  ∃ o es ep t, h.get? a = some o ∧ o.ExactSet ∧ o.data = .set es ep t ∧ (∀ e ∈ es.toList, TxE P w e) ∧ (es.toList.map ttx).Perm l ∧ l.Nodup ∧
    es.size < scanBound ∧ t.fits es.size = true ∧ Ris t.place.toList ∧ (w.params.followText "set-order" = true ∨ t.led = true)
section
variable {P : Program} {w : World} {h h' : Heap} {a : Addr} {l : List Str}
theorem TxSet.at (R : TxSet P w h a l) (k : ∀ o, h.get? a = some o → h'.get? a = some o) : TxSet P w h' a l := by
  obtain ⟨o, es, ep, t, ho, r⟩ := R; exact ⟨o, es, ep, t, k o ho, r⟩
theorem TxSet.lt (R : TxSet P w h a l) : a < h.objs.size := by obtain ⟨o, es, ep, t, ho, r⟩ := R; exact Heap.lt_size ho
theorem txe_elems {es : List (Int × Value)} (g : ∀ e ∈ es, TxE P w e) : ElemsOf (PySem.strKind P w) es := fun e he => by
  obtain ⟨k, tk, rfl⟩ := g e he
  exact ⟨⟨k, PySem.strKind_is P w k tk, rfl⟩, rfl⟩
theorem txe_is {e : Int × Value} (g : TxE P w e) (k : Str) : (PySem.strKind P w).is k e.2 = true ↔ ttx e = k := by
  obtain ⟨k0, tk, rfl⟩ := g
  rw [KeyKind.is_eq_decide (PySem.strKind_is P w k0 tk) k, decide_eq_true_eq]
  exact eq_comm
theorem txe_mem {es : List (Int × Value)} (g : ∀ e ∈ es, TxE P w e) (k : Str) : k ∈ es.map ttx ↔ ∃ e ∈ es, (PySem.strKind P w).is k e.2 = true := by
  rw [List.mem_map]
  exact ⟨fun ⟨e, he, q⟩ => ⟨e, he, (txe_is (g e he) k).2 q⟩, fun ⟨e, he, q⟩ => ⟨e, he, (txe_is (g e he) k).1 q⟩⟩
theorem TxSet.setOf (R : TxSet P w h a l) : h.SetOf (PySem.strKind P w) a (fun k => decide (k ∈ l)) l.length := by
  obtain ⟨o, es, ep, t, ho, hx, hd, g, pm, nd, hb, hf, _⟩ := R
  refine ⟨o, es, ep, t, ho, hx, hd, txe_elems g, fun k => ?_, hb, hf, ?_⟩
  · rw [decide_eq_true_eq, ← txe_mem g k, pm.mem_iff]
  · have q := pm.length_eq; rw [List.length_map, Array.length_toList] at q; exact q
end
section
variable {P : Program} {w : World} {A : Around} {E : Value → Shared → Prop} {s : Shared} {a : Addr} {l : List Str}
/-- the end of an adding: laid, perhaps all laid anew -/
theorem tx_tail {gw : Bool → Sem Unit} (hgw : ∀ (b : Bool) (s₁ : Shared) (Q' : Unit → Shared → Prop), Q' () s₁ → wpAny (model P w) A (gw b) Q' E s₁) {o : Obj} {es es1 : Array (Int × Value)} {ep : Nat} {t t2 : SetTable}
    (ho : s.heap.get? a = some o) (hex : o.ExactSet) (hd : o.data = .set es ep t) (g1 : ∀ e ∈ es1.toList, TxE P w e) (pm1 : (es1.toList.map ttx).Perm l) (nd1 : l.Nodup) (hb1 : es1.size < scanBound) (hf2 : t2.fits es1.size = true)
    (hr : Ris t2.place.toList) (hl : w.params.followText "set-order" = true ∨ t2.led = true) {wd : Bool} {R : Option Bool → Shared → Prop} (hR : ∀ h', Heap.SameBut a s.heap h' → TxSet P w h' a l → R (some true) { s with heap := h' }) :
    wpAny (model P w) A (do
        storeSet a es1 t2
        if (!wd && t2.tooFull) = true then do
            gw (relayAll t2 es1 (SetTable.grown es1.size)).2.2
            storeSet a (relayAll t2 es1 (SetTable.grown es1.size)).1 (relayAll t2 es1 (SetTable.grown es1.size)).2.1
            pure (some true)
          else pure (some true)) R E s := by
  have ho1 := L2.store_at (es' := es1) (t' := t2) ho hd; have sb1 := Heap.SameBut.update s.heap a (Obj.putSet es1 t2)
  refine wpAny_bind (wpAny_storeSet_of ho hd ?_ (fits_of_scanBound hb1))
  split
  · have pm := relayAll_perm t2 es1 (SetTable.grown es1.size); have hf3 := relayAll_fits t2 es1 (SetTable.grown es1.size)
    have hr3 := L2.relayAll_ris t2 es1 (SetTable.grown es1.size); have hl3 := L2.relayAll_led t2 es1 (SetTable.grown es1.size)
    generalize relayAll t2 es1 (SetTable.grown es1.size) = Z at pm hf3 hr3 hl3 ⊢
    obtain ⟨es2, t3, gv⟩ := Z
    dsimp only at pm hf3 hr3 hl3 ⊢
    have hb2 : es2.size < scanBound := by have q := pm.length_eq; rw [Array.length_toList, Array.length_toList] at q; rw [q]; exact hb1
    refine wpAny_bind (hgw _ _ _ (wpAny_bind (wpAny_storeSet_of ho1 rfl ?_ (fits_of_scanBound hb2))))
    exact wpAny_pure (hR _ (sb1.trans (Heap.SameBut.update _ a _)) ⟨_, es2, _, t3, L2.store_at (es' := es2) (t' := t3) ho1 rfl, hex, rfl, fun e he => g1 e (pm.mem_iff.mp he), (pm.map ttx).trans pm1, nd1, hb2, hf3, hr3,
      hl.imp id fun z => by rw [hl3]; exact z⟩)
  · exact wpAny_pure (hR _ sb1 ⟨_, es1, _, t2, ho1, hex, rfl, g1, pm1, nd1, hb1, hf2, hr, hl⟩)

theorem TxSet.add {k : Str} {tk : Tok} {Q : Bool → Shared → Prop} (R : TxSet P w s.heap a l) (room : l.length + 1 < scanBound)
    (hQ : ∀ b h', Heap.SameBut a s.heap h' → TxSet P w h' a (insT l k) → Q b { s with heap := h' }) : wpAny (model P w) A (setAddHashed a (.str k tk) ((PySem.strKind P w).hash k)) Q E s := by
  obtain ⟨o, es, ep, t, ho, hex, hd, g, pm0, nd, hb, hf, hr, hl⟩ := R
  have hkey : (PySem.strKind P w).is k (.str k tk) = true := PySem.strKind_is P w k tk
  have hsc : (Value.str k tk).scannable = true := rfl
  have hel := txe_elems g
  have hn : es.size = l.length := by have q := pm0.length_eq; rw [List.length_map, Array.length_toList] at q; exact q
  unfold setAddHashed setAddHashedIn
  refine wpAny_holding (wpAny_bind (wpAny_setState_of ho hd hf ?_)); dsimp only; rw [byScan_of hsc hb hel]; simp only [↓reduceIte]; unfold setAddByScan
  refine wpAny_bind (wpAny_bind (wpAny_rule (wpAny_bind (wpAny_setScan_of hkey ho hd hf hel ?_))))
  cases hfi : List.findIdx? (fun e => (PySem.strKind P w).is k e.2) es.toList with
  | some j =>
    dsimp only
    obtain ⟨hj, pj, _⟩ := List.findIdx?_eq_some_iff_getElem.mp hfi
    have hm : k ∈ l := pm0.mem_iff.mp ((txe_mem (P := P) (w := w) g k).2 ⟨es.toList[j], List.getElem_mem hj, pj⟩)
    refine wpAny_pure (wpAny_pure (hQ _ s.heap (Heap.SameBut.refl a s.heap) ?_))
    rw [show insT l k = l from if_pos hm]
    exact ⟨o, es, ep, t, ho, hex, hd, g, pm0, nd, hb, hf, hr, hl⟩
  | none =>
    dsimp only
    have hnk : k ∉ l := fun z => by
      obtain ⟨e, he, q⟩ := (txe_mem (P := P) (w := w) g k).1 (pm0.mem_iff.mpr z)
      have c := List.findIdx?_eq_none_iff.mp hfi e he; rw [q] at c; cases c
    have hins : insT l k = k :: l := if_neg hnk
    have pm := layNew_perm t es ((PySem.strKind P w).hash k) (.str k tk); have hf1 := layNew_fits t es ((PySem.strKind P w).hash k) (.str k tk)
    have hr1 := L2.layNew_ris t es ((PySem.strKind P w).hash k) (.str k tk) hr; have hl1 := L2.layNew_led t es ((PySem.strKind P w).hash k) (.str k tk)
    generalize layNew t es ((PySem.strKind P w).hash k) (.str k tk) = Z at pm hf1 hr1 hl1 ⊢
    obtain ⟨es1, t1, wd, gv⟩ := Z
    dsimp only at pm hf1 hr1 hl1 ⊢
    rw [Array.toList_push] at pm
    have pc := pm.trans (List.perm_append_singleton _ _)
    have g1 : ∀ e ∈ es1.toList, TxE P w e := fun e he => (List.mem_cons.mp (pc.mem_iff.mp he)).elim (fun z => ⟨k, tk, z⟩) (g e)
    have pm1 : (es1.toList.map ttx).Perm (insT l k) := by rw [hins]; exact (pc.map ttx).trans (pm0.cons k)
    have nd1 : (insT l k).Nodup := by rw [hins]; exact List.nodup_cons.mpr ⟨hnk, nd⟩
    have hb1 : es1.size < scanBound := by have q := pc.length_eq; rw [Array.length_toList, List.length_cons, Array.length_toList, hn] at q; rw [q]; exact room
    have hled : w.params.followText "set-order" = true ∨ t1.led = true := hl.imp id fun z => by rw [hl1]; exact z
    have hg : ∀ (b : Bool) {s₁ : Shared} {Q' : Unit → Shared → Prop}, Q' () s₁ → wpAny (model P w) A (match b with | true => rule "set.scan.the-table-gave-way" | false => pure ()) Q' E s₁ := fun b s₁ Q' q => by
      cases b <;> first | exact wpAny_pure q | exact wpAny_rule q
    refine wpAny_bind (hg _ ?_)
    split
    · refine wpAny_bind ?_
      rw [hashByValue_scannable 8 hsc]; refine wpAny_pure ?_
      refine tx_tail ?_ ho hex hd g1 pm1 nd1 hb1 ?_ ?_ ?_ ?_
      · intro b s₁ Q' q; cases b <;> first | exact wpAny_pure q | exact wpAny_rule q
      · first | (split <;> first | exact hf1 | exact SetTable.fits_plain_off hf1) | exact hf1
      · first | (split <;> exact hr1) | exact hr1
      · first | (split <;> exact hled) | exact hled
      · intro h' sb r; dsimp only; exact wpAny_pure (hQ _ h' sb r)
    · refine wpAny_bind (wpAny_pure ?_)
      simp only [↓reduceIte]
      refine tx_tail ?_ ho hex hd g1 pm1 nd1 hb1 hf1 hr1 hled ?_
      · intro b s₁ Q' q; cases b <;> first | exact wpAny_pure q | exact wpAny_rule q
      · intro h' sb r; dsimp only; exact wpAny_pure (hQ _ h' sb r)
theorem txSet_fresh {h : Heap} (P : Program) (w : World) {a : Addr} (e : h.get? a = some { cls := .type "set", dict := none, data := .set #[] 0 (.fresh 0 0 (!w.params.followText "set-order")) }) : TxSet P w h a [] :=
  ⟨_, #[], 0, _, e, ⟨rfl, rfl, rfl⟩, rfl, (fun e he => by simp at he), .nil, .nil, (by decide), (by rfl), List.Pairwise.nil, by
    show _ ∨ (!w.params.followText "set-order") = true
    cases w.params.followText "set-order" <;> simp⟩

/-! ### set(text) -/
theorem txSet_loop {I : Addr} {fp wr : List Addr} {G : Array GenState → Array GenState → Prop} {n : Nat} {Pv : Nat → Value → Prop} {St : Nat → Shared → Prop} {R : Result → Shared → Prop} (W : WalksS P w A.in1 I fp wr G n Pv St) (S : Addr) (hSf : S ∉ fp)
    (xs : List Str) (hn : n = xs.length) (hb : xs.length + 1 < scanBound) (hval : ∀ i v, Pv i v → ∃ x tk, xs[i]? = some x ∧ v = .str x tk) :
    ∀ (k i : Nat) (s : Shared) (l : List Str), n - i = k → i ≤ n → St i s → TxSet P w s.heap S l → l.length ≤ i → (∀ s', Moved (S :: wr) G s s' → TxSet P w s'.heap S ((xs.drop i).foldl insT l) → R (.ok (.ret .none)) s') →
      codeAny (model P w) A (.builtin "set.update.loop" ⟨[.ref S, .ref I], []⟩) R s := by
  have hSw : S ∉ wr := fun z => hSf (W.sub _ z)
  have up : ∀ b ∈ wr, b ∈ S :: wr := fun b z => List.mem_cons_of_mem _ z
  intro k
  induction k with
  | zero =>
    intro i s l hk hi hst hS hl hR
    obtain rfl : i = n := by omega
    refine codeAny_builtin F.entry_set_update_loop ?_; rw [Around.under_plainId F.plain_set_update_loop _]
    refine (wpAny_bind (W.done s _ _ hst fun s' hm => ?_) : wpAny _ A.in1 (pyNext (.ref I) >>= _) _ _ s)
    show wpAny _ A.in1 (PySem.ret Value.none) _ _ s'
    refine wpAny_pure (hR s' (hm.mono up) ?_)
    rw [List.drop_eq_nil_of_le (Nat.le_of_eq hn.symm)]; exact hS.at fun o e => hm.heap S o hSw e
  | succ k ih =>
    intro i s l hk hi hst hS hl hR
    have hlt : i < n := by omega
    refine codeAny_builtin F.entry_set_update_loop ?_; rw [Around.under_plainId F.plain_set_update_loop _]
    refine (wpAny_bind (W.item i s _ _ hlt hst fun v s' hP hst' hm => ?_) : wpAny _ A.in1 (pyNext (.ref I) >>= _) _ _ s)
    obtain ⟨x, tk, hx, rfl⟩ := hval i v hP
    have hS' : TxSet P w s'.heap S l := hS.at fun o e => hm.heap S o hSw e
    refine (wpAny_bind (wpAny_holding ?_) : wpAny _ A.in1 (holding [Value.str x tk] (setAdd S (.str x tk)) >>= _) _ _ s')
    unfold setAdd
    refine wpAny_holding (wpAny_bind ((PySem.strKind P w).pyHash (k := x) (PySem.strKind_is _ _ _ _) ?_))
    refine TxSet.add (s := { s' with toks := s'.toks + 1 }) hS' (by omega) fun b h' sb r => ?_
    have hd : xs.drop i = x :: xs.drop (i + 1) := by
      obtain ⟨hi', e⟩ := List.getElem?_eq_some_iff.mp hx
      rw [List.drop_eq_getElem_cons hi', e]
    have hl' : (insT l x).length ≤ i + 1 := by
      unfold insT; split
      · omega
      · rw [List.length_cons]; omega
    refine wpAny_pure ⟨plainId_quiet F.plain_set_update_loop _, ih (i + 1) _ (insT l x) (by omega) hlt (W.frame _ s' _ _ hst' (Nat.le_succ _) fun b hb' o e => ?_) r hl' fun s'' hm'' r'' => ?_⟩
    · exact (sb.2 b (fun z : b = S => hSf (z ▸ hb'))).trans e
    · refine hR s'' (Moved.trans W.gtrans ((hm.mono up).then_heap (Nat.le_succ _) fun b o hb' e => ?_) hm'') (by rw [hd]; exact r'')
      exact (sb.2 b (fun z : b = S => hb' (z ▸ List.mem_cons_self))).trans e
abbrev oSet (w : World) : Obj := { cls := .type "set", dict := none, data := .set #[] 0 (.fresh 0 0 (!w.params.followText "set-order")) }
/-- a text's signs -/
def signs (x : Str) : List Str := x.cps.toList.map fun c => ⟨#[c]⟩
set_option maxHeartbeats 3200000 in
theorem call_set_text {x : Str} {tx : Tok} {Q : Value → Shared → Prop} (hh : A.handled = none) (hb : x.cps.size + 1 < scanBound)
    (h : ∀ (h' : Heap) (tk : Nat), TxSet P w h' s.heap.objs.size ((signs x).foldl insT []) → (∀ b o, s.heap.get? b = some o → h'.get? b = some o) → Q (.ref s.heap.objs.size) { s with heap := h', toks := tk }) :
    wpAny (model P w) A (call (.type "set") [.str x tx]) Q E s := by
  obtain ⟨c, tl, hmro⟩ := PySem.F.called_set.mro
  have hmade := PySem.F.called_set.made; have hsub := PySem.F.called_set.sub; have h1 := PySem.F.called_set.notType; have h2 := PySem.F.called_set.canCreate
  have hct := PySem.F.typeCall_set_1 (.str x tx)
  refine wpAny_call (codeAny_of_tree ?_)
  show wpAny _ _ (callAny (.type "set") _) _ _ _; refine wpAny_pure ⟨Code.quiet_builtin _ (by decide +kernel), codeAny_builtin PySem.F.entry_type_call ?_⟩; rw [Around.under_plain (weight_type_call_type "set" [.str x tx] []) rfl]
  repeat (any_goals (first | assumption | wp_step))
  refine codeAny_mono (code_set_led1 (.str x tx) (E := E) (Q₁ := fun obj s₁ => obj = .ref s.heap.objs.size ∧ s₁ = { s with heap := s.heap.push (oSet w) }) ⟨rfl, rfl⟩) fun r s₁ hr => ?_
  cases r with
  | error e => exact hr
  | ok fl =>
    cases fl with
    | ret obj =>
      obtain ⟨rfl, rfl⟩ := hr
      have hS : (s.heap.push (oSet w)).get? s.heap.objs.size = some (oSet w) := Heap.get?_push_size _ rfl
      have hT : Shared.TypeIs { s with heap := s.heap.push (oSet w) } (.ref s.heap.objs.size) "set" := ⟨_, hS, rfl⟩
      have hli := PySem.F.called_set.init.lookup; have hbi := PySem.F.called_set.init.bind (.ref s.heap.objs.size)
      repeat (any_goals (first | assumption | wp_step))
      refine codeAny_mono (codeAny_call_builtin (R := wants (fun r s₂ => r = .none ∧ ∃ h' tk, s₂ = { s with heap := h', toks := tk } ∧ TxSet P w h' s.heap.objs.size ((signs x).foldl insT []) ∧
          (∀ b o, s.heap.get? b = some o → h'.get? b = some o)) E) PySem.F.called_set.init.plain PySem.F.entry_set_init (check_set_init_1 hT ?_)) fun r₂ s₂ hr₂ => ?_
      · have q1 := PySem.F.sub_str_set; have q2 := PySem.F.sub_str_frozenset; have q3 : (Value.type "str" == Value.type "dict") = false := by decide
        unfold Builtin.«set.__init__» noKeywords Builtin.Frozenset.updateFrom
        generalize hPI : pyIter = PI
        wp_walk
        subst hPI
        refine wpAny_pyIter_str fun o St Wk hst => ?_
        refine wpAny_bind (wpAny_runValue ?_)
        have hh3 : A.in1.in1.in1.handled = none := by simp [hh]
        have hz : (s.heap.push (oSet w)).objs.size = s.heap.objs.size + 1 := Heap.size_push ..
        have hSf : s.heap.objs.size ∉ [(s.heap.push (oSet w)).objs.size] := fun z => by rw [List.mem_singleton, hz] at z; omega
        have hz2 : x.cps.size = (signs x).length := by unfold signs; rw [List.length_map, Array.length_toList]
        refine txSet_loop ((Wk _ hh3).toS) s.heap.objs.size hSf (signs x) hz2 (by rw [← hz2]; exact hb) (fun i v ⟨c, u, e, ev⟩ => ⟨_, u, by unfold signs; rw [List.getElem?_map, Array.getElem?_toList, e]; rfl, ev⟩) (x.cps.size - 0) 0 _ [] rfl (Nat.zero_le _) hst
          (txSet_fresh P w (Heap.get?_push_of_some _ hS)) (Nat.zero_le _) fun s' hm r' => ?_
        obtain ⟨h', g', d', tk', os'⟩ := s'
        obtain rfl : g' = s.gens := hm.gens
        obtain rfl : d' = s.drawn := hm.drawn
        obtain rfl : os' = s.os := hm.os
        refine wpAny_pure ?_
        show wpAny _ _ (PySem.ret Value.none) _ _ _
        refine wpAny_pure ⟨rfl, h', tk', rfl, r', fun b o e => hm.heap b o (fun z => ?_) (Heap.get?_push_of_some _ (Heap.get?_push_of_some _ e))⟩
        have q := Heap.lt_size e
        rcases List.mem_cons.mp z with z | z
        · exact absurd q (by rw [z]; exact Nat.lt_irrefl _)
        · rw [List.mem_singleton, hz] at z; exact absurd q (by rw [z]; exact Nat.not_lt.mpr (Nat.le_succ _))
      · cases r₂ with
        | error e => exact hr₂
        | ok fl₂ =>
          cases fl₂ with
          | ret r =>
            obtain ⟨rfl, h', tk, rfl, hS', hk'⟩ := hr₂
            repeat (any_goals (first | assumption | wp_step))
            exact h _ _ hS' hk'
          | _ => exact hr₂.elim
    | _ => exact hr.elim
end
end Mi

/-! Mini Z: sorted(set(text)), len(set(text)). -/
namespace Mi
open PySem PySem.Spec PyProof.Rows L2
def vtx : Value → Str | .str k _ => k | _ => Str.empty
theorem strs_vtx : ∀ (l : List Value), (∀ v ∈ l, ∃ k tk, v = Value.str k tk) → StrsAre l (l.map vtx)
  | [], _ => .nil
  | v :: l, h => by
    obtain ⟨k, tk, rfl⟩ := h v List.mem_cons_self
    exact .cons k tk (strs_vtx l fun u hu => h u (List.mem_cons_of_mem _ hu))
section
variable {P : Program} {w : World} {A : Around} {E : Value → Shared → Prop} {s : Shared} {a : Addr} {l : List Str}
set_option maxHeartbeats 2000000 in
theorem sorted_txSet {Q : Value → Shared → Prop} (R : TxSet P w s.heap a l) (hh : A.handled = none) (h64 : l.length < 64)
    (hQ : ∀ s' p its c, (∀ b o, s.heap.get? b = some o → s'.heap.get? b = some o) → s'.gens = s.gens → s'.os = s.os → s.heap.objs.size ≤ p → s'.heap.get? p = some (seqObj "list" its c) → StrsAre its.toList (srt l) → Q (.ref p) s') :
    wpAny (model P w) A (call (.builtin "sorted") [.ref a]) Q E s := by
  obtain ⟨o, es, ep, t, ho, hex, hd, g, pm0, nd, hb, hf, hr, hl⟩ := R
  have hn : es.toList.length = l.length := by have q := pm0.length_eq; rw [List.length_map] at q; exact q
  refine Calls.call_function_entry kind_sorted plain_sorted entry_sorted (args_sorted1 _) ?_
  unfold Builtin.«sorted»; refine wpAny_bind (m := checkCount "sorted" 1 1 _) (wpAny_pure ?_)
  refine wpAny_bind (collect_set (A := A.in1) hh ⟨o, ho, hex.1, hd⟩ hf hb hr hl fun s1 vs k1 hz g1 o1 pm => ?_)
  have hvl : vs.length = l.length := by rw [pm.length_eq, List.length_map]; exact hn
  have hS : StrsAre vs (vs.map vtx) := strs_vtx vs fun v hv => by
    obtain ⟨e, he, q⟩ := List.mem_map.mp (pm.mem_iff.mp hv)
    obtain ⟨k, tk, rfl⟩ := g e he
    exact ⟨k, tk, q.symm⟩
  have pl : (vs.map vtx).Perm l := by
    have q := pm.map vtx
    rw [List.map_map, show vtx ∘ (fun e : Int × Value => e.2) = ttx from funext fun e => by obtain ⟨i, v⟩ := e; cases v <;> rfl] at q
    exact q.trans pm0
  refine wpAny_bind (wpAny_newList ?_ (by rw [hvl, sizeLine_eq]; omega))
  have hoL : (s1.heap.push (seqObj "list" vs.toArray 0)).get? s1.heap.objs.size = some (seqObj "list" vs.toArray 0) := Heap.get?_push_size _ rfl
  refine wpAny_bind (wpAny_holding (wpAny_call_entry slot_list_sort ⟨_, hoL, rfl⟩ entry_list_sort
    (list_sort_treeK strKind_oneLt (s := { s1 with heap := s1.heap.push (seqObj "list" vs.toArray 0) }) hoL hS.keysOf (fun v₁ v₂ rest e => keyKind_strs (by rw [← e]; exact hS)) (by rw [hvl]; exact h64) fun st' hp hs => ⟨_, rfl, ?_⟩) (args_list_sort _)))
  obtain ⟨ys, a1, a2, a3⟩ := sorted_out_str hS hp hs
  obtain ⟨c, hc⟩ := sortedHeap_at (vs := vs) (out := (arrOf st').map (·.2)) hoL
  rw [srt_of (a2.trans pl) (sortedS_pw a3)] at a1
  refine wpAny_pure ⟨_, rfl, hQ _ s1.heap.objs.size _ c (fun b u e => ?_) g1 o1 hz hc a1⟩
  have q := k1 b u e
  have hlt := Heap.lt_size q
  exact (sortedHeap_old (Nat.ne_of_lt hlt) (by rw [size_push']; exact Nat.lt_succ_of_lt hlt)).trans (Heap.get?_push_of_some _ q)
end
def TxO (P : Program) (w : World) (a : Addr) (l : List Str) : HO := .ext fun h => TxSet P w h a l
theorem txO_new {P : Program} {w : World} {H : Hp} {h : Heap} {a : Addr} {l : List Str} (R : TxSet P w h a l) : ObjOk P w H h a (TxO P w a l) :=
  ⟨R, by obtain ⟨o, es, ep, t, ho, r⟩ := R; exact ⟨o, ho⟩, fun h1 h2 z k => TxSet.at z fun o q => k _ q⟩
section
variable {X : Cx} {pins : List (Addr × Obj)} {σ : L2.St} {H : Hp} {s : Shared} {a : Addr} {l : List Str}
theorem txO_get (I : Inv X pins σ H s) (ha : H a = some (TxO X.prog X.w a l)) : TxSet X.prog X.w s.heap a l := (I.hok a _ ha).1
def rSetTx (P : Program) (w : World) : List V → Hp → VK → Prop := fun xs H Q => ∃ x, xs = [.str x] ∧ x.cps.size < 64 ∧ ∀ p, H p = none → Q (.ref p) (upd H p (TxO P w p ((signs x).foldl insT [])))
theorem cr_setTx (hc : X.calm = true) : CallR X (.type "set") (rSetTx X.prog X.w) := by
  intro pins s σ H vs us Q I r ⟨x, e, h64, q⟩
  subst e
  obtain ⟨u, rfl, r1⟩ := vals1 r
  obtain ⟨tk, rfl⟩ := r1
  exact call_set_text (I.ok.hd hc) (by unfold scanBound; omega) fun h' tk' R k => ⟨.ref s.heap.objs.size, _, I.laid (t' := tk') k (Nat.le_refl _) (txO_new R), rfl, q _ (I.hok.fresh (Nat.le_refl _))⟩
def rSrtTx (P : Program) (w : World) : List V → Hp → VK → Prop := fun xs H Q => ∃ a l, xs = [.ref a] ∧ H a = some (TxO P w a l) ∧ l.length < 64 ∧ ∀ p, H p = none → Q (.ref p) (upd H p (.lst ((srt l).map V.str)))
theorem cr_srtTx (hc : X.calm = true) : CallR X (.builtin "sorted") (rSrtTx X.prog X.w) := by
  intro pins s σ H vs us Q I r ⟨a, l, e, ha, h64, q⟩
  subst e
  have R := txO_get I ha
  rw [Vals.ref1 r]
  refine sorted_txSet R (I.ok.hd hc) h64 fun s' p its c k g o hp hg hi => ?_
  have hl : ((srt l).map V.str).length ≤ sizeLine := by rw [List.length_map, (srt_perm l).length_eq, sizeLine_eq]; omega
  have hn : H p = none := I.hok.fresh hp
  have J : Inv X pins σ (upd H p (.lst ((srt l).map V.str))) { s with heap := s'.heap, gens := s'.gens, drawn := s'.drawn, toks := s'.toks } :=
    I.call (ch := []) (Un.laid k hp hn) (I.hok.laid k hp ⟨hl, its.toList, c, vals_of_strs hi, hg⟩) (by rw [g]; exact I.bare) (fun _ z => nomatch z)
  have e : s' = { s with heap := s'.heap, gens := s'.gens, drawn := s'.drawn, toks := s'.toks } := by cases s'; cases s; cases o; rfl
  rw [e]
  exact ⟨.ref p, _, J, rfl, q p hn⟩
def rLenTx (P : Program) (w : World) : List V → Hp → VK → Prop := fun xs H Q => ∃ a l, xs = [.ref a] ∧ H a = some (TxO P w a l) ∧ Q (.int l.length) H
theorem cr_lenTx : CallR X (.builtin "len") (rLenTx X.prog X.w) := by
  intro pins s σ H vs us Q I r ⟨a, l, e, ha, q⟩
  subst e
  have R := txO_get I ha
  rw [Vals.ref1 r]
  obtain ⟨o, es, ep, t, ho, hex, hd, g, pm0, nd, hb, hf, hr, hl⟩ := R
  have hn : es.size = l.length := by have z := pm0.length_eq; rw [List.length_map, Array.length_toList] at z; exact z
  exact call_len_set ho hex hd hf (by have : scanBound < 2 ^ 63 := by decide
                                      omega) ⟨.int l.length, H, I.tok _, ⟨_, by rw [hn]⟩, q⟩
end
def srtSetU : U → M U | .str x => when (decide (x.cps.size < 64)) (ret (.lst ((srt ((signs x).foldl insT [])).map .str))) | _ => stk
def lenSetU : U → M U | .str x => when (decide (x.cps.size < 64)) (ret (.int ((signs x).foldl insT []).length)) | _ => stk
theorem insT_len : ∀ (xs l : List Str), (xs.foldl insT l).length ≤ l.length + xs.length
  | [], l => Nat.le_refl _
  | x :: xs, l => by
    refine Nat.le_trans (insT_len xs _) ?_
    unfold insT; split <;> simp only [List.length_cons] <;> omega
theorem ctN_con {X : Cx} {W : WX} {f : U → M U} {ρ : Rho} {s : MS} {σ : L2.St} {H : Hp} {Q : V → Hp → Prop} {u : U} {v : V} (R : Rl (gx X) ρ s σ H) (r : RepE (gx X) ρ σ H u v) (h : OkN X W ρ σ H (bd (ct u) f s) Q) :
    ∃ c, Con (gx X) ρ H c v ∧ OkN X W ρ σ H (f c s) Q := by
  unfold bd ct at h
  cases q : cont s u with
  | none => rw [q] at h; exact h.elim
  | some c => rw [q] at h; exact ⟨c, cont_ok R r q, h⟩
theorem signs_len (x : Str) : (signs x).length = x.cps.size := by unfold signs; rw [List.length_map, Array.length_toList]
section
variable {X : Cx} {W : WX} {e : Expr} {m : M U} {p p2 q pos : Pos}
theorem sen_srtSet (hc : X.calm = true) (hg : Gl X "sorted") (hm : X.mg "sorted" = none) (hg2 : Gl X "set") (hm2 : X.mg "set" = none) (h : SE0 X W e m)
    (he : starEach [.Call (.Name "set" p2) [e] [] q] X.env = (false, eval (.Call (.Name "set" p2) [e] [] q) X.env) :: starEach [] X.env := by rfl) (he2 : starEach [e] X.env = (false, eval e X.env) :: starEach [] X.env := by rfl) :
    SEN X W (.Call (.Name "sorted" p) [.Call (.Name "set" p2) [e] [] q] [] pos) (bd m fun u => bd (ct u) srtSetU) := by
  obtain ⟨t, pe, h⟩ := h
  refine ⟨_, pe_callB (cr_srtTx hc) hg hm (by decide +kernel) (pa_cons (pe_callTy (cr_setTx hc) hg2 hm2 (by decide +kernel) (pa_cons pe pa_nil he2) (by decide) (by decide) he2) pa_nil he) (by decide) (by decide) he, fun ρ s σ H Q R k => ?_⟩
  refine h ρ s σ H _ R (k.bd fun u s1 ρ1 H1 v _ x1 R1 r1 h1 => ?_)
  obtain ⟨c, c1, h2⟩ := ctN_con R1 r1 h1
  cases c with
  | str x =>
    obtain rfl := c1.str
    obtain ⟨e1, h3⟩ := OkN.when h2
    have h64 : x.cps.size < 64 := of_decide_eq_true e1
    refine ⟨x, rfl, h64, fun a ha => ⟨a, _, rfl, upd_same, ?_, fun p hp => ?_⟩⟩
    · have q := insT_len (signs x) []; rw [signs_len] at q; simp only [List.length_nil] at q; omega
    · have R2 : Rl (gx X) ρ1 s1 σ (upd H1 a (TxO X.prog X.w a ((signs x).foldl insT []))) := R1.laid ha
      exact (OkN.ext h3 (R1.laidExt ha)).lay R2 hp fun U e => ⟨_, e, strs_rep _⟩
  | _ => exact h2.elim
theorem se_lenSet (hc : X.calm = true) (hg : Gl X "len") (hm : X.mg "len" = none) (hg2 : Gl X "set") (hm2 : X.mg "set" = none) (h : SE0 X W e m)
    (he : starEach [.Call (.Name "set" p2) [e] [] q] X.env = (false, eval (.Call (.Name "set" p2) [e] [] q) X.env) :: starEach [] X.env := by rfl) (he2 : starEach [e] X.env = (false, eval e X.env) :: starEach [] X.env := by rfl) :
    SE X W (.Call (.Name "len" p) [.Call (.Name "set" p2) [e] [] q] [] pos) (bd m fun u => bd (ct u) lenSetU) := by
  obtain ⟨t, pe, h⟩ := h
  refine ⟨_, pe_callB cr_lenTx hg hm (by decide +kernel) (pa_cons (pe_callTy (cr_setTx hc) hg2 hm2 (by decide +kernel) (pa_cons pe pa_nil he2) (by decide) (by decide) he2) pa_nil he) (by decide) (by decide) he, fun ρ s σ H Q R k => ?_⟩
  refine h ρ s σ H _ R (k.bd fun u s1 ρ1 H1 v _ x1 R1 r1 h1 => ?_)
  obtain ⟨c, c1, h2⟩ := ct_con R1 r1 h1
  cases c with
  | str x =>
    obtain rfl := c1.str
    obtain ⟨e1, h3⟩ := Ok.when h2
    exact ⟨x, rfl, of_decide_eq_true e1, fun a ha => ⟨a, _, rfl, upd_same, h3 ρ1 _ _ (R1.laidExt ha) (R1.laid ha) .int⟩⟩
  | _ => exact h2.elim
end
end Mi

/-! Mini AA: loops over lists that may change, told apart at each turn. -/
namespace Mi
open PySem PySem.Spec PyProof.Rows L2
open Classical in
/-- the list j of the store is still us -/
noncomputable def chkJ (j : Nat) (us : List U) : M Unit := fun s => if s.st[j]? = some (.lst us) then .ok () s else .stuck
def Chk (c : M Unit) : Prop := ∀ s, c s = .ok () s ∨ c s = .stuck
theorem chk_ret : Chk (ret ()) := fun s => .inl rfl
theorem chk_J {j : Nat} {us : List U} : Chk (chkJ j us) := fun s => by
  unfold chkJ
  by_cases e : s.st[j]? = some (.lst us)
  · rw [if_pos e]; exact .inl rfl
  · rw [if_neg e]; exact .inr rfl
theorem chkJ_ok {j : Nat} {us : List U} {s : MS} (h : chkJ j us s = .ok () s) : s.st[j]? = some (.lst us) := by
  unfold chkJ at h
  by_cases e : s.st[j]? = some (.lst us)
  · exact e
  · rw [if_neg e] at h; cases h
theorem chkJ_eq {j : Nat} {us : List U} {s : MS} (h : s.st[j]? = some (.lst us)) : chkJ j us s = .ok () s := by unfold chkJ; rw [if_pos h]
def WalksC (X : Cx) (J : It) (xs : List U) (c : M Unit) (ρ : Rho) (H : Hp) : Prop := ∀ ρ2 H2 (σ2 : L2.St) s2 i, Up (gx X) ρ H ρ2 H2 → (∀ a, ρ2.wr a → ∃ o, H2 a = some o ∧ MutK o) → (∀ (j : Nat) (u : U), s2.st[j]? = some u → ∃ a, ρ2.ss j = some a ∧ OwnS (gx X) ρ2 H2 u a) → c s2 = .ok () s2 → i ≤ xs.length →
  (i = xs.length → J.stop i H2) ∧ ∀ u, xs[i]? = some u → J.go i H2 ∧ ∀ x H3, J.yld i H2 x H3 → (H3 = H2 ∨ ∃ p o, H2 p = none ∧ H3 = upd H2 p o) ∧ Rep (gx X) ρ2 H3 u x
theorem Walks.c {X : Cx} {J : It} {xs : List U} {ρ : Rho} {H : Hp} (h : Walks X J xs ρ H) (c : M Unit) : WalksC X J xs c ρ H := fun ρ2 H2 σ2 s2 i U occ _ _ hi => h ρ2 H2 i U occ hi
noncomputable def itemsC : U → M (List U × M Unit)
  | .ref j => fun s => match s.st[j]? with
    | some (.lst us) => .ok (us, chkJ j us) s
    | _ => .stuck
  | u => bd (itemsU u) fun us => ret (us, ret ())
def SIC (X : Cx) (W : WX) (tg iter : Expr) (m : M (List U × M Unit)) : Prop :=
  ∃ wi, PI X tg iter wi ∧ ∀ ρ s σ H R, Rl (gx X) ρ s σ H → Ok X W (fun ρ' H' p J => Chk p.2 ∧ WalksC X J p.1 p.2 ρ' H') ρ σ H (m s) R → wi σ H R
def forCL (c : M Unit) (g : U → M Unit) (b : Sm) : List U → Sm
  | [] => bd c fun _ => ret .nx
  | x :: xs => bd c fun _ => bd (g x) fun _ => fun s => match b s with
    | .ok .nx s' => forCL c g b xs s'
    | .ok .ct s' => forCL c g b xs s'
    | .ok .bk s' => .ok .nx s'
    | r => r
section
variable {X : Cx} {W : WX} {e a b c o tg : Expr} {es ifs : List Expr} {m ma mb mc : M U} {ms : M (List U)} {mt : M Bool} {st : Stmt} {rest body orelse : List Stmt} {n n1 n2 : Sm} {g : U → M Unit} {gs : List U → M Unit} {pos : Pos}
theorem walks_ref {ρ : Rho} {H : Hp} {j : Nat} {a : Addr} {us : List U} (hs : ρ.ss j = some a) : WalksC X (Itl X.K a) us (chkJ j us) ρ H := by
  intro ρ2 H2 σ2 s2 i U occ sto hc hi
  obtain ⟨a', e1, vs, e2, r⟩ := sto j _ (chkJ_ok hc)
  rw [U.ss j a hs] at e1
  cases e1
  refine ⟨fun e => ⟨vs, .of e2, by rw [e, r.length]; exact Nat.le_refl _⟩, fun u e => ?_⟩
  obtain ⟨v, e3, rv⟩ := r.get e
  refine ⟨⟨vs, v, .of e2, e3⟩, fun x H3 ⟨e4, y⟩ => ?_⟩
  subst e4
  have := y vs (.of e2)
  rw [e3] at this; cases this
  exact ⟨.inl rfl, rv⟩
theorem si_live (h : SE X W e m) : SIC X W tg e (bd m itemsC) := by
  obtain ⟨t, p, h⟩ := h
  refine ⟨_, pi_by it_any p, fun ρ s σ H R Rr k => h ρ s σ H _ Rr (k.bd fun u s1 ρ1 H1 v _ x1 R1 r1 h1 => ?_)⟩
  have tree : ∀ {us : List U} {J : It} {H2 : Hp}, Ok X W (fun ρ' H' p J => Chk p.2 ∧ WalksC X J p.1 p.2 ρ' H') ρ1 σ H1 (ret (us, ret ()) s1) R → Ext (gx X) ρ1 H1 ρ1 H2 → Rl (gx X) ρ1 s1 σ H2 → Walks X J us ρ1 H2 → R J H2 := fun k x R' w => k.ret' x R' ⟨chk_ret, w.c _⟩
  cases r1 with
  | lst h r => exact .inl ⟨_, rfl, ⟨_, h.sq⟩, tree h1 Ext.refl R1 (walks_list (.inl ⟨.inl h.1, h.2⟩) r)⟩
  | kl h r => exact .inl ⟨_, rfl, ⟨_, h.sq⟩, tree h1 Ext.refl R1 (walks_list h r)⟩
  | tup h r => exact .inr (.inl ⟨_, rfl, ⟨_, h.sq⟩, tree h1 Ext.refl R1 (walks_tup h r)⟩)
  | str => exact .inr (.inr (.inl ⟨_, rfl, tree h1 Ext.refl R1 walks_str⟩))
  | @dK us d kvs h n r =>
    refine .inr (.inr (.inr (.inl ⟨d, kvs, rfl, ?_⟩)))
    rcases h with h | ⟨od, h⟩
    · exact .inl ⟨h, fun od => tree h1 (lock_up h trivial n) (lock_rl R1 h trivial n) (walks_keys upd_same n r.keys)⟩
    · exact .inr ⟨od, h, tree h1 Ext.refl R1 (walks_keys h n r.keys)⟩
  | @dT us d kvs h n r =>
    refine .inr (.inr (.inr (.inr ⟨d, kvs, rfl, ?_⟩)))
    rcases h with h | ⟨od, h⟩
    · exact .inl ⟨h, fun od => tree h1 (lock_up h trivial n) (lock_rl R1 h trivial n) (walks_keysT upd_same n r.keys)⟩
    · exact .inr ⟨od, h, tree h1 Ext.refl R1 (walks_keysT h n r.keys)⟩
  | @ref j a hs =>
    have h1 : Ok X W (fun ρ' H' p J => Chk p.2 ∧ WalksC X J p.1 p.2 ρ' H') ρ1 σ H1 (match s1.st[j]? with | some (.lst us) => .ok (us, chkJ j us) s1 | _ => .stuck) R := h1
    cases q : s1.st[j]? with
    | none => rw [q] at h1; exact h1.elim
    | some u =>
      rw [q] at h1
      cases u with
      | lst us =>
        obtain ⟨a', e1, vs, e2, r⟩ := R1.sto j _ q
        rw [hs] at e1; cases e1
        exact .inl ⟨_, rfl, ⟨_, .of e2⟩, h1 _ _ _ Ext.refl R1 ⟨chk_J, walks_ref hs⟩⟩
      | _ => exact h1.elim
  | _ => exact h1.elim
theorem ss_forC {mi : M (List U × M Unit)} {iter : Expr} (hp : PassesOwn (model X.prog X.w) X.A X.env X.xe) (hc : X.calm = true) (hi : SIC X W tg iter mi) (hg : SG X W tg g) (hb : SSs X W body n) (hs : ∀ x, foldedSetIterable iter X.env x = pure x := by intro _; rfl) :
    SS X W (.For tg iter body [] pos) (bd mi fun p => forCL p.2 g n p.1) := by
  obtain ⟨wi, pi, hi⟩ := hi
  obtain ⟨tg', pg, hg⟩ := hg
  obtain ⟨tb, pb, hb⟩ := hb
  refine ⟨_, ps_for hp hc pi pg pb hs, fun ρ s σ H D R k => hi ρ s σ H _ R (OkS.bdE k fun xc s1 ρ1 H1 J _ x1 R1 wk h1 => ?_)⟩
  obtain ⟨xs, c⟩ := xc
  obtain ⟨ck, wk⟩ := wk
  dsimp only at h1 ck wk
  refine ⟨fun i m σ2 H2 => m = xs.length - i ∧ i ≤ xs.length ∧ ∃ ρ2 s2, Ext (gx X) ρ1 H1 ρ2 H2 ∧ Rl (gx X) ρ2 s2 σ2 H2 ∧ OkS X W ρ2 H2 (forCL c g n (xs.drop i) s2) D, ⟨xs.length, by simp, Nat.zero_le _, ρ1, s1, Ext.refl, R1, h1⟩, ?_⟩
  rintro i m σ2 H2 ⟨rfl, hi, ρ2, s2, x2, R2, h2⟩
  by_cases hlt : i < xs.length
  · have e : xs.drop i = xs[i] :: xs.drop (i + 1) := List.drop_eq_getElem_cons hlt
    rw [e] at h2
    rcases ck s2 with cs | cs
    · have h2 : OkS X W ρ2 H2 (bd (g xs[i]) (fun _ => fun s => match n s with
        | .ok .nx s' => forCL c g n (xs.drop (i + 1)) s'
        | .ok .ct s' => forCL c g n (xs.drop (i + 1)) s'
        | .ok .bk s' => .ok .nx s'
        | r => r) s2) D := by
        have h2' := h2
        unfold forCL at h2'
        rw [show ∀ (f : Unit → Sm), bd c f s2 = f () s2 from fun f => by unfold bd; rw [cs]] at h2'
        exact h2'
      obtain ⟨stop, go⟩ := wk ρ2 H2 σ2 s2 i x2.toUp R2.occK R2.sto cs hi
      obtain ⟨gg, yy⟩ := go xs[i] (by simp [hlt])
      refine .inr ⟨gg, fun σ' H' => ∃ ρ3 s3, Ext (gx X) ρ1 H1 ρ3 H' ∧ Rl (gx X) ρ3 s3 σ' H' ∧ OkS X W ρ3 H' (forCL c g n (xs.drop (i + 1)) s3) D, fun σ' H' q => ⟨xs.length - (i + 1), by omega, rfl, hlt, q⟩, fun x H3 y => ?_⟩
      obtain ⟨hx, rx⟩ := yy x H3 y
      have lay : Ext (gx X) ρ2 H2 ρ2 H3 ∧ Rl (gx X) ρ2 s2 σ2 H3 := by
        rcases hx with rfl | ⟨p, o, hp, rfl⟩
        · exact ⟨Ext.refl, R2⟩
        · exact ⟨R2.laidExt hp, R2.laid hp⟩
      have h3 := OkS.ext h2 lay.1
      refine hg ρ2 s2 σ2 H3 xs[i] x _ lay.2 rx (OkG.bdS h3 fun s4 ρ4 σ4 H4 _ x4 R4 h4 => ?_)
      refine hb ρ4 s4 σ4 H4 _ R4 ?_
      have X4 := (x2.trans lay.1).trans x4
      cases q : n s4 with
      | ok fl s5 =>
        rw [q] at h4
        cases fl with
        | nx => exact fun ρ5 σ5 H5 x5 R5 => ⟨ρ5, s5, X4.trans x5, R5, OkS.ext h4 x5⟩
        | ct => exact fun ρ5 σ5 H5 x5 R5 => ⟨ρ5, s5, X4.trans x5, R5, OkS.ext h4 x5⟩
        | bk => exact fun ρ5 σ5 H5 x5 R5 => h4 ρ5 σ5 H5 x5 R5
        | rt u => exact fun ρ5 σ5 H5 v x5 R5 r5 => h4 ρ5 σ5 H5 v x5 R5 r5
      | err y s5 => rw [q] at h4; exact fun ρ5 σ5 H5 cls d x5 R5 r5 => h4 ρ5 σ5 H5 cls d x5 R5 r5
      | stuck => rw [q] at h4; exact h4
    · unfold forCL at h2
      rw [show ∀ (f : Unit → Sm), bd c f s2 = .stuck from fun f => by unfold bd; rw [cs]] at h2
      exact h2.elim
  · have e : i = xs.length := by omega
    subst e
    rw [List.drop_length] at h2
    rcases ck s2 with cs | cs
    · unfold forCL at h2
      rw [show ∀ (f : Unit → Sm), bd c f s2 = f () s2 from fun f => by unfold bd; rw [cs]] at h2
      exact .inl ⟨(wk ρ2 H2 σ2 s2 xs.length x2.toUp R2.occK R2.sto cs hi).1 rfl, h2 ρ2 σ2 H2 Ext.refl R2⟩
    · unfold forCL at h2
      rw [show ∀ (f : Unit → Sm), bd c f s2 = .stuck from fun f => by unfold bd; rw [cs]] at h2
      exact h2.elim
end
theorem forCL_ret (g : U → M Unit) (b : Sm) : ∀ us : List U, forCL (ret ()) g b us = forL g b us
  | [] => (rfl)
  | x :: xs => by
    unfold forCL forL
    rw [forCL_ret g b xs]
    rfl
@[simp] theorem itemsC_l (us : List U) : itemsC (.lst us) = ret (us, ret ()) := (rfl)
@[simp] theorem itemsC_kl (us : List U) : itemsC (.kl us) = ret (us, ret ()) := (rfl)
@[simp] theorem itemsC_t (us : List U) : itemsC (.tup us) = ret (us, ret ()) := (rfl)
@[simp] theorem forCL_ret' (g : U → M Unit) (b : Sm) (us : List U) : forCL (ret ()) g b us = forL g b us := forCL_ret g b us
end Mi

/-! Mini AB: a, b = x, []; f-strings; classmethods. -/
namespace Mi
open PySem PySem.Spec PyProof.Rows L2
/-- a, b = (a fresh object), [] -/
def par2N (i j : Nat) (m : M U) : Sm := bd m fun u => bd (sto i u) fun _ => bd (sto j (.lst [])) fun _ => ret .nx
section
variable {X : Cx} {W : WX} {e a b c o tg : Expr} {es ifs rest : List Expr} {m ma mb mc mo : M U} {ms : M (List U)} {mt : M Bool} {pos : Pos}
theorem ss_par2N {i j : Nat} {x y : Str} {px py pt pl : Pos} {kt k2 pt2} (hc : X.calm = true) (hN : X.N.Nodup) (hi : X.N[i]? = some x) (hj : X.N[j]? = some y) (hij : i ≠ j) (hx : X.env.scope.names.lookup x = some .local) (hy : X.env.scope.names.lookup y = some .local) (ha : SEN X W a m)
    (hw : swappedStores [.Tuple [.Name x px, .Name y py] kt pt] (.Tuple [a, .List [] pl] k2 pt2) X.env = pure (some [x, y])) (hs : swapsWithSole [.Tuple [.Name x px, .Name y py] kt pt] (.Tuple [a, .List [] pl] k2 pt2) pos.line X.env = pure false := by rfl)
    (h1 : starEach [a, .List [] pl] X.env = (false, eval a X.env) :: starEach [.List [] pl] X.env := by rfl) (h2 : starEach [.List [] pl] X.env = (false, eval (.List [] pl) X.env) :: starEach [] X.env := by rfl) :
    SS X W (.Assign [.Tuple [.Name x px, .Name y py] kt pt] (.Tuple [a, .List [] pl] k2 pt2) pos) (par2N i j m) := by
  obtain ⟨t, p, he⟩ := ha
  refine ⟨_, ps_par hc hN hi hj hij hx hy (pa_cons p (pa_cons (pe_lst pa_nil) pa_nil h2) h1) hw hs, fun ρ s σ H D R k => he ρ s σ H _ R ?_⟩
  have k : OkS X W ρ H (bd m (fun u => bd (sto i u) fun _ => bd (sto j (.lst [])) fun _ => ret .nx) s) D := k
  revert k
  unfold bd
  cases m s with
  | ok u s' =>
    intro k ρ' H' a h0 x e n R' ow
    dsimp only [sto] at k
    by_cases l : i < s'.env.length
    · simp only [if_pos l] at k
      by_cases l2 : j < (s'.env.set i (.own u)).length
      · simp only [if_pos l2] at k
        refine ⟨Nat.zero_le _, fun p hp => ⟨_, _, rfl, ?_⟩⟩
        have R1 := R'.give e n ow l
        have R2 := R1.lay (o := .lst []) hp trivial
        have R3 := R2.give (u := .lst []) R1.tm (R1.fresh hp) ⟨[], upd_same, .nil⟩ l2
        exact k _ _ _ ((give_ext e R' x h0).trans (give_ext R1.tm R2 (R1.laidExt hp) fun q z _ => by rw [hp] at z; cases z)) R3
      · simp only [if_neg l2] at k
        exact k.elim
    · simp only [if_neg l] at k
      exact k.elim
  | err y s' => exact fun k ρ' H' cls d x R' r' => k ρ' σ H' cls d x R' r'
  | stuck => exact fun k => k

/-! ### f-strings -/
def fmtU : U → M U
  | .str y => when (decide (y.length ≤ sizeLine)) (ret (.str y))
  | .int i => when (decide (i.natAbs.log2 < 1920)) (ret (.str (toString i)))
  | _ => stk
theorem se_fmt (h : SE X W e m) : SE X W (.FormattedValue e (-1) none pos) (bd m fmtU) := by
  obtain ⟨t, p, h⟩ := h
  refine ⟨_, pe_fmt p, fun ρ s σ H Q R k => ?_⟩
  refine h ρ s σ H _ R (k.bd fun u s1 ρ1 H1 v _ x1 R1 r1 h1 => ?_)
  cases r1 with
  | str => obtain ⟨e, h2⟩ := Ok.when h1; exact .inl ⟨_, rfl, of_decide_eq_true e, h2.ret R1 .str⟩
  | int => obtain ⟨e, h2⟩ := Ok.when h1; exact .inr ⟨_, rfl, of_decide_eq_true e, h2.ret R1 .str⟩
  | _ => exact h1.elim
/-- the parts of an f-string behind a text -/
def SJ (X : Cx) (W : WX) (es : List Expr) (m : Str → M Str) : Prop := ∃ ts, PJ X es ts ∧ ∀ ρ s σ H acc Q, Rl (gx X) ρ s σ H → Ok X W (fun _ _ (u : Str) (v : Str) => u = v) ρ σ H (m acc s) Q → tJs ts acc σ H Q
theorem sj_nil : SJ X W [] ret := ⟨[], .nil, fun ρ s σ H acc Q R k => k.ret R rfl⟩
def jn (m : M U) (r : Str → M Str) (acc : Str) : M Str := bd m fun u => match u with
  | .str y => when (decide ((acc ++ y).length ≤ sizeLine)) (r (acc ++ y))
  | _ => stk
theorem sj_cons {r : Str → M Str} (h : SE X W e m) (hr : SJ X W es r) : SJ X W (e :: es) (jn m r) := by
  obtain ⟨t, p, h⟩ := h
  obtain ⟨ts, q, hr⟩ := hr
  refine ⟨t :: ts, .cons p q, fun ρ s σ H acc Q R k => ?_⟩
  refine h ρ s σ H _ R (k.bd fun u s1 ρ1 H1 v _ x1 R1 r1 h1 => ?_)
  cases r1 with
  | str => obtain ⟨e, h2⟩ := Ok.when h1; exact ⟨_, rfl, of_decide_eq_true e, hr ρ1 s1 σ H1 _ Q R1 h2⟩
  | _ => exact h1.elim
theorem se_joined {r : Str → M Str} (h : SJ X W (a :: b :: rest) r) : SE X W (.JoinedStr (a :: b :: rest) pos) (bd (r Str.empty) fun x => ret (.str x)) := by
  obtain ⟨ts, p, h⟩ := h
  refine ⟨_, pe_joined p, fun ρ s σ H Q R k => ?_⟩
  refine h ρ s σ H _ _ R (k.bd fun u s1 ρ1 H1 v _ x1 R1 r1 h1 => ?_)
  subst r1
  exact h1.ret R1 .str
theorem se_joined1 (h : SE X W e m) : SE X W (.JoinedStr [e] pos) m := by
  obtain ⟨t, p, h⟩ := h
  exact ⟨_, pe_joined1 p, h⟩

/-! ### classmethods -/
structure CmOf (G : Gx) (cn mn : Str) (C p f : Addr) : Prop where
  mc : G.mg cn = some (.ref C)
  rd : ClX.CRead G.K C (.type "type")
  met : ClX.CMet G.K C (.type "type") mn p f
def cmM (cn : Str) (mo : M U) (ms : M (List U)) (g : F) : M U := bd mo fun u => match u with
  | .cls c => when (decide (c = cn)) (bd ms fun us => callF g (u :: us))
  | _ => stk
theorem se_cmeth {cn mn : Str} {k : Nat} {C p f : Addr} {g : F} {apos : Pos} {pl : Sem Bool} (T : CmOf (gx X) cn mn C p f) (Fn : FnU X.prog X.w (gx X) X.base k f g) (tk : Takes X W) (hr : Room k X.A) (ho : SE X W o mo) (ha : SA X W (e :: es) ms)
    (hst : starEach (e :: es) X.env = (false, eval e X.env) :: starEach es X.env := by rfl) (hpl : (backTo pos (starEach es X.env)).any (·.1) = false := by rfl)
    (ht : eval (.Call (.Attribute o mn apos) (e :: es) [] pos) X.env = (do
      let ov ← eval o X.env
      standAt apos.atName
      let (f, first) ← holding [ov] (getMethod ov mn pl)
      callWith pos f first (backTo pos (starEach (e :: es) X.env)) (backToKw pos (keywordEach [] X.env))) := by rfl) :
    SE X W (.Call (.Attribute o mn apos) (e :: es) [] pos) (cmM cn mo ms g) := by
  obtain ⟨to, po, ho⟩ := ho
  obtain ⟨⟨t, pa, h⟩, _⟩ := ha
  refine ⟨fun σ H Q => to σ H fun x H1 => x = .ref C ∧ t σ H1 fun vs H2 => spR (gx X) g (x :: vs) H2 Q (WE W σ), ⟨fun pins s σ H Q I k => ?_⟩, fun ρ s σ H Q R k => ?_⟩
  · refine PySem.W.methodCall_KW (pl := pl) (thn (po.run pins s σ H _ I k) fun u s1 ⟨x, H1, I1, rx, ex, q⟩ => ?_) ht
    subst ex
    obtain rfl : u = Value.ref C := rx
    refine ClX.getmethcm_ok I1 T.rd T.met fun s2 I2 => ?_
    refine ClX.callwith_cm I2 (ClX.base_none I1 (Nat.le_refl _)) T.met.fi (thn (pa.run pos _ s2 σ H1 _ I2 q) fun us s3 ⟨vs, H2, I3, rv, q2⟩ => ⟨⟨ClX.pin_at I3, I3.kIn⟩, ?_⟩) hst hpl
    have z : wpAny (model X.prog X.w) X.A (call (.ref s1.heap.objs.size) us) (EP X ((s1.heap.objs.size, PySem.W.methodObj (.ref f) (.ref C)) :: pins) σ Q) X.xe s3 := by
      refine wpAny_call (PySem.W.method_call (ClX.pin_at I3) (codeAny_mono (Fn X.A X.stack s3 H2 (.ref C :: us) (.ref C :: vs) Q (WE W σ) hr I3.env0 (.cons rfl rv) q2) fun r s' hq => ?_))
      cases r with
      | error e => exact passAt tk σ _ H2 s3 e s' I3 hq
      | ok fl =>
        cases fl with
        | ret u => exact I3.after hq
        | next => exact False.elim hq
        | brk => exact False.elim hq
        | cont => exact False.elim hq
    exact thn z fun _ _ y => ClX.unpinE y
  · refine ho ρ s σ H _ R (k.bd fun u s1 ρ1 H1 v _ x1 R1 r1 h1 => ?_)
    cases u with
    | cls c =>
      obtain ⟨e1, h2⟩ := Ok.when h1
      have ec := of_decide_eq_true e1
      subst ec
      cases r1 with
      | cls mc =>
        rw [T.mc] at mc
        cases mc
        refine ⟨rfl, h ρ1 s1 σ H1 _ R1 (h2.bd fun us s2 ρ2 H2 vs _ x2 R2 r2 h4 => callU_run R2 (.cons (.cls T.mc) r2) h4)⟩
    | _ => exact h1.elim
end
end Mi

/-! Mini AC: text[::-1]. -/
namespace Mi
open PySem PySem.Spec PyProof.Rows L2
theorem rev_pick (z : Str) : (Builtin.Str.strSliceIndices none none (-1) z.length).filterMap (z.cps[·]?) = z.cps.toList.reverse := by
  show (sliceRange ((z.length : Int) - 1) (-1) (-1)).filterMap (z.cps[·]?) = _
  rw [PySem.W.krv_sliceRange, PySem.W.krv_range, List.filterMap_reverse]
  show (List.filterMap (z.cps[·]?) (List.range z.cps.size)).reverse = _
  rw [PySem.W.krv_all]
section
variable {X : Cx} {W : WX} {e : Expr} {m : M U} {pos : Pos}
def tRevS (te : TE) : TE := fun σ H Q => te σ H fun x H1 => ∃ z, x = .str z ∧ z.length ≤ sizeLine ∧ Q (.str ⟨z.cps.toList.reverse.toArray⟩) H1
theorem pe_revS {te : TE} {k : Nat} {p1 p2 p3 : Pos} (he : PE X e te) : PE X (.Subscript e (.Slice none none (some (.UnaryOp .USub (.Constant (.int 1) k p1) p2)) p3) pos) (tRevS te) := by
  refine ⟨fun pins s σ H Q I h => ?_⟩
  refine Subscript_ (thn (he.run pins s σ H _ I h) fun v s1 ⟨x, H1, I1, r1, z, ex, hz, q⟩ => ?_)
  subst ex
  obtain ⟨t, rfl⟩ := r1
  have hst : PO X (some (.UnaryOp .USub (.Constant (.int 1) k p1) p2)) (tPart (tUn (rU fun i => .int (-i)) (tC (.int 1)))) := po_some (pe_un un_neg pe_int)
  refine wpAny_Slice (thn (po_none.run pins s1 σ H1 (fun o H2 => o = none ∧ H2 = H1) I1 ⟨rfl, rfl⟩) fun vl s2 ⟨l, H2, I2, pl, el, e2⟩ => ?_)
  subst el e2
  refine thn (po_none.run pins s2 σ H2 (fun o H3 => o = none ∧ H3 = H2) I2 ⟨rfl, rfl⟩) fun vu s3 ⟨u, H3, I3, pu, eu, e3⟩ => ?_
  subst eu e3
  refine thn (hst.run pins s3 σ H3 (fun o H4 => o = some (-1) ∧ H4 = H3) I3 ⟨1, rfl, -1, rfl, rfl, rfl⟩) fun vs s4 ⟨o, H4, I4, ps, eo, e4⟩ => ?_
  subst eo e4
  have I5 : Inv X pins σ H4 { s4 with heap := s4.heap.push { cls := .type "slice", data := .fields #[vl, vu, vs] } } := I4.kept (t' := s4.toks) fun b ob q => Heap.get?_push_of_some _ q
  show wpAny (model X.prog X.w) X.A (subscriptTail e (.Slice none none (some (.UnaryOp .USub (.Constant (.int 1) k p1) p2)) p3) (.str z t) (.ref s4.heap.objs.size)) (EP X pins σ Q) X.xe { s4 with heap := s4.heap.push { cls := .type "slice", data := .fields #[vl, vu, vs] } }
  refine tail_any (ops := [.str z t, .ref s4.heap.objs.size]) (typeIs_str _ _ _) (F.slot_str_getitem.lookup) ?_ (by with_unfolding_all rfl)
  obtain ⟨l', rfl, e1⟩ := IsPart.raw pl
  obtain ⟨u', rfl, e2⟩ := IsPart.raw pu
  obtain ⟨st', rfl, e3⟩ := IsPart.raw ps
  refine wpAny_getItem_str_slice (l := l') (u := u') (st := st') ⟨_, Heap.get?_push_size _ rfl, rfl, rfl⟩ (by rw [e3]; rfl) ?_
  have hp : Builtin.Str.strSliceIndices (l'.map (·.1)) (u'.map (·.1)) ((st'.map (·.1)).getD 1) z.length = Builtin.Str.strSliceIndices none none (-1) z.length := by rw [e1, e2, e3]; rfl
  unfold sliceMade slicePicked
  rw [hp, rev_pick, e3]
  exact ⟨by show z.cps.toList.reverse.toArray.size ≤ sizeLine
            rw [List.size_toArray, List.length_reverse, Array.length_toList]; exact hz, .str _, H4, I5.tok _, ⟨_, rfl⟩, q⟩
def revU : U → M U
  | .str z => when (decide (z.length ≤ sizeLine)) (ret (.str ⟨z.cps.toList.reverse.toArray⟩))
  | _ => stk
theorem se_revS {k : Nat} {p1 p2 p3 : Pos} (h : SE X W e m) : SE X W (.Subscript e (.Slice none none (some (.UnaryOp .USub (.Constant (.int 1) k p1) p2)) p3) pos) (bd m revU) := by
  obtain ⟨t, p, h⟩ := h
  refine ⟨_, pe_revS p, fun ρ s σ H Q R k => ?_⟩
  refine h ρ s σ H _ R (k.bd fun u s1 ρ1 H1 v _ x1 R1 r1 h1 => ?_)
  cases r1 with
  | str => obtain ⟨e, h2⟩ := Ok.when h1; exact ⟨_, rfl, of_decide_eq_true e, h2.ret R1 .str⟩
  | _ => exact h1.elim
end
end Mi

/-! Mini AD: == of dicts, classes called by other ways, facts of classes. -/
namespace Mi
open PySem PySem.Spec PyProof.Rows L2
def okDat (d e : PyData) : Bool := SeqAt.shaped d && SeqAt.shaped e
/-- whether all pairs stand in ws, too -/
def eqDL (ws : List (Key × U)) : List (Key × U) → Option Bool
  | [] => some true
  | (k, u) :: r => match getG ws k with
    | none => some false
    | some w => match dat u, dat w, eqDL ws r with
      | some d, some e, some b => if okDat d e = true then some (PyData.eqv d e && b) else none
      | _, _, _ => none
def eqX (neg : Bool) (x y : U) : M U := match x, y with
  | .dK us, .dK ws => (match eqDL ws us with
    | some b => ret (.bl (xor neg (us.length == ws.length && b)))
    | none => stk)
  | _, _ => eqU neg x y
section
variable {X : Cx} {W : WX} {e a b c o tg : Expr} {es rest : List Expr} {m ma mb mc mo : M U} {ms : M (List U)} {pos : Pos}
theorem eqDL_run {pins : List (Addr × Obj)} {s : Shared} {σ : L2.St} {H : Hp} {ρ : Rho} {A : Around} (I : Inv X pins σ H s) (hu : A.units + 64 < cLine) {ws : List (Key × U)} {wv : List (Key × V)} {wb : List (Key × Value)} (rw_ : RepD (gx X) ρ H ws wv) (rb : KV wv wb) :
    ∀ {us : List (Key × U)} {uv : List (Key × V)} {ub : List (Key × Value)} {r : Bool}, RepD (gx X) ρ H us uv → KV uv ub → eqDL ws us = some r → PySem.W.KeqHitsP X.prog X.w A s wb ub r
  | _, _, _, _, .nil, ra, e => by
    cases ra
    cases e
    exact .nil
  | (k, u) :: us, (_, v) :: uv, _, r, .cons h hr, ra, e => by
    cases ra with
    | @cons _ q _ ub h1 ra =>
      obtain ⟨h1, h2⟩ := h1
      obtain ⟨k2, y⟩ := q
      obtain rfl : k = k2 := h1
      unfold eqDL at e
      cases g : getG ws k with
      | none =>
        rw [g] at e
        cases e
        have z := rb.val k
        rw [(rw_.get (k := k)).2 g] at z
        refine .miss ?_
        cases q : valueAt wb k with
        | none => rfl
        | some _ => rw [q] at z; exact z.elim
      | some w =>
        rw [g] at e
        obtain ⟨wv', e1, rw2⟩ := (rw_.get (k := k)).1 w g
        have z := rb.val k
        rw [e1] at z
        obtain ⟨y2, hy, ry⟩ := RelO.some_of z
        dsimp only at e
        cases d1 : dat u with
        | none => rw [d1] at e; cases e
        | some d =>
          cases d2 : dat w with
          | none => rw [d1, d2] at e; cases e
          | some d' =>
            cases d3 : eqDL ws us with
            | none => rw [d1, d2, d3] at e; cases e
            | some b =>
              rw [d1, d2, d3] at e
              dsimp only at e
              by_cases ok : okDat d d' = true
              · rw [if_pos ok] at e
                cases e
                have sh := Bool.and_eq_true_iff.mp ok
                obtain ⟨as, r1⟩ := Dp.reads I d v y (dat_ok h d1) h2
                obtain ⟨bs, r2⟩ := Dp.reads I d' wv' y2 (dat_ok rw2 d2) ry
                exact .hit hy (SeqAt.EqAt.eqP (SeqAt.eqAt_reads d d' A s y y2 as bs r1 r2 (SeqAt.canLay_of_shaped sh.1) (SeqAt.canLay_of_shaped sh.2) (SeqAt.room_of_shaped sh.1 hu))) (eqDL_run I hu rw_ rb hr ra d3)
              · rw [if_neg ok] at e; cases e
theorem oc_eqX (hu : X.A.units + 65 < cLine) : OpR X (compareOp .Eq) (rC X W (eqX false)) := by
  intro pins s σ H x y v u Q I rx ry ⟨ρ, s', σ', p, q, R, c1, c2, h⟩
  unfold eqX at h
  split at h
  · rename_i us ws
    obtain ⟨pa, va, rfl, ea, ra⟩ := c1.dK
    obtain ⟨pb, vb, rfl, eb, rb⟩ := c2.dK
    cases rx
    cases ry
    obtain ⟨_, ya, va', ka, da⟩ := dk_rd I.hok ea
    obtain ⟨_, yb, vb', kb, db⟩ := dk_rd I.hok eb
    cases g : eqDL ws us with
    | none => rw [g] at h; exact h.elim
    | some r =>
      rw [g] at h
      show wpAny _ _ (richCompare .Eq (.ref pa) (.ref pb)) _ _ _
      refine PySem.W.rcP_dicts (knd := mixKind X.prog X.w) (r := r) ya yb da db (by omega) (fun _ => eqDL_run (A := X.A.in1) I (by show X.A.units + 1 + 64 < cLine; omega) rb kb ra ka g) _ _ ?_
      have el : va'.length = us.length := by rw [ra.length, ka.length]
      have el2 : vb'.length = ws.length := by rw [rb.length, kb.length]
      rw [el, el2]
      have h := h.ret R .bl
      rw [Bool.false_xor] at h
      exact ⟨.bl _, H, I, rfl, h⟩
  · exact oc_eq (by omega) pins s σ H _ _ v u Q I rx ry ⟨ρ, s', σ', _, _, R, c1, c2, h⟩

/-! ### C(), a name's class called -/
theorem sen_make0 {x : Str} {p : Pos} {k : Nat} {f C : Addr} {g : F} (M : Mk X.K C f) (Fn : FnU X.prog X.w (gx X) X.base k f g) (tk : Takes X W) (hr : Room (k + 1) X.A) (hg : Gl X x) (hm : X.mg x = some (.ref C))
    (hdb : (x == ("__debug__" : Str)) = false := by decide) : SEN X W (.Call (.Name x p) [] [] pos) (mkO x g []) := by
  refine ⟨fun σ H Q => ∀ x dx, H x = none → H dx = none → dx ≠ x → spR (gx X) g [V.ref x] (upd (upd H dx (.own x)) x (.ins C dx [])) (fun v H2 => v = .non ∧ Q (.ref x) H2) (WE W σ), ⟨fun pins s σ H Q I k => ?_⟩, fun ρ s σ H Q R k => ?_⟩
  · refine wpAny_Call_Name_kw (ld_glob I hg hm ?_ hdb)
    exact PySem.W.callWith_K0 I.kIn M.kp (run_mk (cn := x) M Fn tk hr I .nil k)
  · exact fun a dx ha hd ne => mkO_run hm R .nil k ha hd ne
def mkV (cn : Str) (mo : M U) (ms : M (List U)) (g : F) : M U := bd mo fun u => match u with
  | .cls c => when (decide (c = cn)) (bd ms (mkO cn g))
  | _ => stk
theorem sen_makeV {x cn : Str} {p : Pos} {k : Nat} {f C : Addr} {g : F} (M : Mk X.K C f) (hm : X.mg cn = some (.ref C)) (Fn : FnU X.prog X.w (gx X) X.base k f g) (tk : Takes X W) (hr : Room (k + 1) X.A) (ho : SE X W (.Name x p) mo) (ha : SA X W (e :: es) ms)
    (he : starEach (e :: es) X.env = (false, eval e X.env) :: starEach es X.env := by rfl) (hpl : (backTo pos (starEach es X.env)).any (·.1) = false := by rfl) :
    SEN X W (.Call (.Name x p) (e :: es) [] pos) (mkV cn mo ms g) := by
  obtain ⟨to, po, ho⟩ := ho
  obtain ⟨⟨t, pa, h⟩, _⟩ := ha
  refine ⟨fun σ H Q => to σ H fun z H0 => z = .ref C ∧ t σ H0 fun vs H1 => ∀ x dx, H1 x = none → H1 dx = none → dx ≠ x → spR (gx X) g (V.ref x :: vs) (upd (upd H1 dx (.own x)) x (.ins C dx [])) (fun v H2 => v = .non ∧ Q (.ref x) H2) (WE W σ), ⟨fun pins s σ H Q I k => ?_⟩, fun ρ s σ H Q R k => ?_⟩
  · refine wpAny_Call_Name_kw (thn (po.run pins s σ H _ I k) fun v s0 ⟨z, H0, I0, rz, ez, q0⟩ => ?_)
    subst ez
    obtain rfl : v = Value.ref C := rz
    refine PySem.W.callWith_K (h₀ := X.base) I.ok.mod.kin M.kp (thn (pa.run pos pins s0 σ H0 _ I0 q0) fun us s1 ⟨vs, H1, I1, r, q⟩ => ⟨I1.kIn, ?_⟩) he hpl
    exact run_mk (cn := cn) M Fn tk hr I1 r q
  · have k : OkN X W ρ σ H (bd mo (fun u => match u with | .cls c => when (decide (c = cn)) (bd ms (mkO cn g)) | _ => stk) s) Q := k
    refine ho ρ s σ H _ R (OkN.bd k fun u s0 ρ0 H0 z _ x0 R0 r0 h0 => ?_)
    cases u with
    | cls c =>
      obtain ⟨e1, h2⟩ := OkN.when h0
      have ec := of_decide_eq_true e1
      subst ec
      cases r0 with
      | cls mc =>
        have mc : X.mg c = _ := mc
        rw [hm] at mc
        cases mc
        exact ⟨rfl, h ρ0 s0 σ H0 _ R0 (OkN.bd h2 fun us s1 ρ1 H1 vs _ x1 R1 r1 h1 a dx ha hd ne => mkO_run hm R1 r1 h1 ha hd ne)⟩
    | _ => exact h0.elim
end

/-! ### facts -/
open PySem.W in
def prpB (C f : Str) (K : PySem.W.Frag) : Bool := He.eqO (findIn K (.ref (He.ga K C)) f) (some (some (.ref (He.ma K (He.ga K C) f)))) && (He.eqO (specialIn K (.ref (He.ma K (He.ga K C) f)) "__get__") (some (some (.builtin "property.__get__"))) &&
  (decide (takesIn K (.ref (He.ma K (He.ga K C) f)) = some true) && (match recIn K (He.ma K (He.ga K C) f) "property" with
    | some (.ref _ :: _) => true
    | _ => false)))
theorem prpB_ok {K : PySem.W.Frag} {C f : Str} (h : prpB C f K = true) : PropOf K (He.ga K C) f (He.ma K (He.ga K C) f) (He5.wf K (He.ga K C) "property" f) := by
  unfold prpB at h
  rw [Bool.and_eq_true, Bool.and_eq_true, Bool.and_eq_true] at h
  obtain ⟨h1, h2, h3, h4⟩ := h
  refine ⟨He.eqO_ok h1, He.eqO_ok h2, of_decide_eq_true h3, ?_⟩
  unfold He5.wf
  split at h4
  · rename_i f' r e
    exact ⟨r, by rw [e]⟩
  · cases h4
open PySem.W in
def cmB (C m : Str) (K : PySem.W.Frag) : Bool := readsIn K (He.ga K C) (.type "type") && (He.eqO (specialIn K (.ref (He.ga K C)) "__getattribute__") (some (some (.builtin "type.__getattribute__"))) &&
  (He5.wrapB K (He.ga K C) "classmethod" "classmethod.__get__" m && fnIn K (He5.wf K (He.ga K C) "classmethod" m)))
theorem cmB_ok {K : PySem.W.Frag} {mg : Str → Option Value} {C m : Str} (h : cmB C m K = true) (g : mg C = some (.ref (He.ga K C))) : CmOf ⟨K, mg⟩ C m (He.ga K C) (He.ma K (He.ga K C) m) (He5.wf K (He.ga K C) "classmethod" m) := by
  unfold cmB at h
  rw [Bool.and_eq_true, Bool.and_eq_true, Bool.and_eq_true] at h
  obtain ⟨h1, h2, h3, h4⟩ := h
  exact ⟨g, ⟨h1, He.eqO_ok h2⟩, He5.cmet_of h3 h4⟩
open PySem.W in
def eqB (C : Str) (K : PySem.W.Frag) : Bool := dunB C "__eq__" K && (He.eqO (findIn K (.ref (He.ga K C)) "__ne__") (some (some (.builtin "object.__ne__"))) && decide (mroIn K (He.ga K C) (.type "object") = some true))
theorem eqB_ok {K : PySem.W.Frag} {mg : Str → Option Value} {C : Str} (h : eqB C K = true) (g : mg C = some (.ref (He.ga K C))) : EqOf ⟨K, mg⟩ C (He.ga K C) (He.ma K (He.ga K C) "__eq__") := by
  unfold eqB at h
  rw [Bool.and_eq_true, Bool.and_eq_true] at h
  exact { toDunOf := dunB_ok h.1 g, ne := He.eqO_ok h.2.1, mo := of_decide_eq_true h.2.2 }
end Mi

/-! Mini AE: list(text), dict(list of pairs). -/
namespace Mi
open PySem PySem.Spec PyProof.Rows L2
def listV : List U → M U
  | [.str x] => when (decide (x.cps.size ≤ sizeLine)) (ret (.lst ((signs x).map .str)))
  | us => listU us
/-- a pair as it stands in a list -/
def pairU : U → Option (Key × U)
  | .tup [k, v] => (keyU k).map (·, v)
  | _ => none
def pairsU : List U → Option (List (Key × U))
  | [] => some []
  | u :: us => match pairU u, pairsU us with
    | some p, some ps => some (p :: ps)
    | _, _ => none
def putAll (acc : List (Key × U)) (kvs : List (Key × U)) : List (Key × U) := kvs.foldl (fun acc kv => putG acc kv.1 kv.2) acc
def dictV : List U → M U
  | [.lst us] => fun s => match pairsU us with
    | some kvs => .ok (.dK (putAll [] kvs)) s
    | none => .stuck
  | us => dictU us
theorem mergeK_put (acc kvs : List (Key × V)) : mergeK acc kvs = kvs.foldl (fun acc kv => putK acc kv.1 kv.2) acc := by
  induction kvs generalizing acc with
  | nil => rfl
  | cons kv kvs ih => exact ih _
theorem RepD.putA {G : Gx} {ρ : Rho} {H : Hp} (kvs : List (Key × U)) : ∀ (vvs : List (Key × V)) (us : List (Key × U)) (vs : List (Key × V)), RepD G ρ H us vs → RepD G ρ H kvs vvs → RepD G ρ H (Mi.putAll us kvs) (vvs.foldl (fun acc kv => putK acc kv.1 kv.2) vs) := by
  induction kvs with
  | nil => intro vvs us vs r q; cases q; exact r
  | cons kv kvs ih => intro vvs us vs r q; cases q with | @cons k u v us' vs' h q => exact ih vs' (putG us k u) (putK vs k v) (r.put h) q
theorem pairsU_ok {G : Gx} {ρ : Rho} {H : Hp} : ∀ {us : List U} {vs : List V} {kvs : List (Key × U)}, Reps G ρ H us vs → pairsU us = some kvs → ∃ ps vvs, vs = ps.map V.ref ∧ Paired (fun p kv => SqT G.K H p [kV kv.1, kv.2]) ps vvs ∧ RepD G ρ H kvs vvs
  | _, _, _, .nil, e => by cases e; exact ⟨[], [], rfl, .nil, .nil⟩
  | u :: us, _, kvs, .cons h r, e => by
    unfold pairsU at e
    cases e1 : pairU u with
    | none => rw [e1] at e; cases e
    | some p =>
      cases e2 : pairsU us with
      | none => rw [e1, e2] at e; cases e
      | some ps =>
        rw [e1, e2] at e
        cases e
        obtain ⟨as, vvs, rfl, pr, rd⟩ := pairsU_ok r e2
        unfold pairU at e1
        split at e1
        · rename_i k v
          obtain ⟨key, ek, rfl⟩ := Option.map_eq_some_iff.mp e1
          cases h with
          | tup ht rt =>
            cases rt with
            | cons hk rt =>
              cases rt with
              | cons hv rt =>
                cases rt
                obtain rfl := keyU_ok hk ek
                exact ⟨_ :: as, (key, _) :: vvs, rfl, .cons ht.sq pr, .cons hv rd⟩
        · cases e1
section
variable {X : Cx} {W : WX}
theorem cn_listV (hc : X.calm = true) : CallR X (.type "list") (rCAN X W listV) := by
  intro pins s σ H xs us Q I r ⟨ρ, s', σ', ws, R, c, h⟩
  unfold listV at h
  split at h
  · rename_i x
    cases c with
    | cons c1 c2 =>
      cases c2
      obtain rfl := c1.str
      obtain ⟨e, h2⟩ := OkN.when h
      obtain ⟨u, rfl, r1⟩ := vals1 r
      obtain ⟨t, rfl⟩ := r1
      have hz := of_decide_eq_true e
      refine call_list_str (hn := hz) (I.ok.hd hc) x t fun h' tk acc c' k hg hi => ?_
      have hl : acc.toList.length = (signs x).length := by rw [Array.length_toList, hi.1, signs_len]
      have hS : StrsAre acc.toList (signs x) := strs_at hl fun j v e => by
        obtain ⟨c0, u0, e1, e2⟩ := hi.2 j v (by rw [← Array.getElem?_toList]; exact e)
        exact ⟨_, u0, by unfold signs; rw [List.getElem?_map, Array.getElem?_toList, e1]; rfl, e2⟩
      have hlen : ((signs x).map V.str).length ≤ sizeLine := by rw [List.length_map, signs_len]; exact hz
      exact ⟨.ref s.heap.objs.size, upd H s.heap.objs.size (.lst ((signs x).map V.str)), I.laid (t' := tk) k (Nat.le_refl _) (show ObjOk X.prog X.w _ _ _ (.lst ((signs x).map V.str)) from ⟨hlen, acc.toList, c', vals_of_strs hS, by rw [Array.toArray_toList]; exact hg⟩), rfl,
        h2.lay R (I.hok.fresh (Nat.le_refl _)) fun U e => ⟨_, e, strs_rep _⟩⟩
  · exact cn_list hc pins s σ H _ us Q I r ⟨ρ, s', σ', _, R, c, h⟩
theorem cn_dictV (hc : X.calm = true) : CallR X (.type "dict") (rCAN X W dictV) := by
  intro pins s σ H xs us Q I r ⟨ρ, s', σ', ws, R, c, h⟩
  unfold dictV at h
  split at h
  · rename_i us0
    cases c with
    | cons c1 c2 =>
      cases c2
      obtain ⟨p, vs, rfl, q, rr⟩ := c1.lst
      cases e : pairsU us0 with
      | none => rw [e] at h; exact h.elim
      | some kvs =>
        rw [e] at h
        obtain ⟨ps, vvs, rfl, pr, rd⟩ := pairsU_ok rr e
        have h : OkN X W ρ σ' H (ret (.dK (putAll [] kvs)) s') Q := h
        refine call_dictP hc pins s σ H _ us Q I r ⟨p, ps, vvs, rfl, .of q, pr, fun z hz => ?_⟩
        rw [mergeK_put]
        exact h.lay R hz fun U e => ⟨_, e, (RepD.putA _ _ _ _ .nil rd).up U⟩
  · exact cn_dict pins s σ H _ us Q I r ⟨ρ, s', σ', _, R, c, h⟩
end
end Mi
namespace Mi
@[simp] theorem listV_l (us : List U) : listV [.lst us] = ret (.lst us) := (rfl)
@[simp] theorem listV_kl (us : List U) : listV [.kl us] = ret (.lst us) := (rfl)
@[simp] theorem listV_t (us : List U) : listV [.tup us] = ret (.lst us) := (rfl)
@[simp] theorem listV_d (kvs : List (L2.Key × U)) : listV [.dK kvs] = ret (.lst (kvs.map fun q => kU q.1)) := (rfl)
@[simp] theorem listV_s (x : PySem.Str) : listV [.str x] = when (decide (x.cps.size ≤ PySem.sizeLine)) (ret (.lst ((signs x).map .str))) := (rfl)
@[simp] theorem dictV_d (kvs : List (L2.Key × U)) : dictV [.dK kvs] = ret (.dK kvs) := (rfl)
end Mi

/-! Mini AF: a list comprehension's list, just made. -/
namespace Mi
open PySem PySem.Spec PyProof.Rows L2
theorem slcN {X : Cx} {W : WX} {vs : List Nat} {tgr : TG} {tt : TT} {g : U → M Unit} {mt : M Bool} {m : M U} {wi : TI} {te : TE} {mi : M (List U)} (hi : SIt X W wi mi) (hg : SGb X W0 vs tg tgr g) (ht : STt X W0 tt mt) (he : SEt X W0 te m) : ∀ ρ s σ H Q, Rl (gx X) ρ s σ H → OkN X W ρ σ H (lcM vs mi g mt m s) Q → tLc wi tgr tt te vs σ H Q := by
  intro ρ s σ H Q R h
  refine hi ρ s σ H _ R (OkN.bd (m := mi) h fun xs s1 ρ1 H1 J _ x1 R1 wk h1 => ?_)
  obtain ⟨hno, h1⟩ := OkN.when h1
  intro D hD
  have nD1 : ¬ ρ1.wr D := R1.fresh hD
  -- the block's start
  have Rw := (R1.wipe (vs := vs)).pin (D := D) (o := .lst []) hD trivial
  have laid : Ext (gx X) ρ1 H1 (ρ1.drop vs) (upd H1 D (.lst [])) := (R1.laidExt hD).trans drop_ext
  refine ⟨fun i k H2 => k = xs.length - i ∧ i ≤ xs.length ∧ ∃ ρ2 s2 acc vacc, Ext (gx X) ρ1 H1 ρ2 H2 ∧ Rl (gx X) (ρ2.pin D) s2 (L2.wipe σ vs) H2 ∧ (∀ i ∈ vs, ∀ u, s2.env[i]? ≠ some (Sl.own u)) ∧ H2 D = some (.lst vacc) ∧ Reps (gx X) (ρ2.pin D) H2 acc vacc ∧ ¬ ρ2.wr D ∧
      OkN X W ρ1 σ H1 (finL vs s1.env (compL vs g mt m acc (xs.drop i) s2)) Q, ⟨xs.length, by simp, Nat.zero_le _, ρ1.drop vs, _, [], [], laid, Rw, ?_, upd_same, .nil, fun w => nD1 (drop_wr w), h1⟩, ?_⟩
  · intro i hi u e
    rw [show ({ s1 with env := wipeE s1.env vs } : MS).env = wipeE s1.env vs from rfl, wipeE_get, if_pos hi] at e
    split at e <;> cases e
  rintro i k H2 ⟨rfl, hi2, ρ2, s2, acc, vacc, x2, R2, nw2, eD, racc, nD, h2⟩
  have xp : Up (gx X) ρ1 H1 (ρ2.pin D) H2 := ⟨fun b q e n t => ⟨(x2.keep b q e n t).1, fun w => (pin_wr w).elim (x2.keep b q e n t).2 fun z => by rw [z, hD] at e; cases e⟩, x2.ss⟩
  obtain ⟨stop, go⟩ := wk (ρ2.pin D) H2 i xp R2.occK hi2
  by_cases hlt : i < xs.length
  · have ed : xs.drop i = xs[i] :: xs.drop (i + 1) := List.drop_eq_getElem_cons hlt
    rw [ed] at h2
    obtain ⟨gg, yy⟩ := go xs[i] (by simp [hlt])
    refine .inr ⟨gg, fun H' => ∃ ρ3 s3 acc' vacc', Ext (gx X) ρ1 H1 ρ3 H' ∧ Rl (gx X) (ρ3.pin D) s3 (L2.wipe σ vs) H' ∧ (∀ i ∈ vs, ∀ u, s3.env[i]? ≠ some (Sl.own u)) ∧ H' D = some (.lst vacc') ∧ Reps (gx X) (ρ3.pin D) H' acc' vacc' ∧ ¬ ρ3.wr D ∧
      OkN X W ρ1 σ H1 (finL vs s1.env (compL vs g mt m acc' (xs.drop (i + 1)) s3)) Q, fun H' q => ⟨xs.length - (i + 1), by omega, rfl, hlt, q⟩, fun x H3 y => ?_⟩
    obtain ⟨hx, rx⟩ := yy x H3 y
    have lay : Ext (gx X) (ρ2.pin D) H2 (ρ2.pin D) H3 ∧ Rl (gx X) (ρ2.pin D) s2 (L2.wipe σ vs) H3 ∧ Ext (gx X) ρ2 H2 ρ2 H3 := by
      rcases hx with rfl | ⟨p, o, hp, rfl⟩
      · exact ⟨Ext.refl, R2, Ext.refl⟩
      · refine ⟨R2.laidExt hp, R2.laid hp, ⟨⟨fun b q e n _ => ⟨.inl (by rw [upd_ne (ne_of_none e hp)]; exact e), n⟩, fun _ _ e => e⟩, rfl, fun b q _ e _ => by rw [upd_ne (ne_of_none e hp)]; exact e⟩⟩
    obtain ⟨lay1, lay2, lay3⟩ := lay
    have eD3 : H3 D = some (.lst vacc) := lay1.zk D _ (.inr rfl) eD trivial
    have h3 := h2
    have x3 := x2.trans lay3
    clear h2
    refine hg (ρ2.pin D) s2 _ H3 xs[i] x _ lay2 rx ?_
    unfold compL bd at h3
    cases q4 : g xs[i] s2 with
    | err y s4 => rw [q4] at h3; exact h3.elim
    | stuck => rw [q4] at h3; exact h3.elim
    | ok w4 s4 =>
      rw [q4] at h3
      intro ρ' σ4 H4 x4 R4 l4 k4
      obtain ⟨ρ4, rfl, y4, n4, e4⟩ := unpin_ext x4 R4 nD eD3
      refine ⟨by rw [wipe_eq l4 k4, wipe_wipe], ?_⟩
      have ew : L2.wipe σ4 vs = L2.wipe σ vs := by rw [wipe_eq l4 k4, wipe_wipe]
      refine ht (ρ4.pin D) s4 σ4 H4 _ R4 ?_
      dsimp only at h3
      cases q5 : mt s4 with
      | err y s5 => rw [q5] at h3; exact h3.elim
      | stuck => rw [q5] at h3; exact h3.elim
      | ok b s5 =>
        rw [q5] at h3
        intro ρ'5 H5 b' x5 R5 eb
        subst eb
        obtain ⟨ρ5, rfl, y5, n5, e5⟩ := unpin_ext x5 R5 n4 e4
        have X5 := (x3.trans y4).trans y5
        dsimp only at h3
        cases b with
        | false =>
          rw [if_neg Bool.false_ne_true]
          have Rn := R5.wipe (vs := vs)
          rw [ew] at Rn
          refine ⟨ρ5.drop vs, _, acc, vacc, X5.trans drop_ext, Rn, ?_, e5, ((((racc.up lay1.toUp).up x4.toUp).up x5.toUp).up drop_ext.toUp), fun w => n5 (drop_wr w), h3⟩
          intro i hi u e
          rw [show ({ s5 with env := wipeE s5.env vs } : MS).env = wipeE s5.env vs from rfl, wipeE_get, if_pos hi] at e
          split at e <;> cases e
        | true =>
          rw [if_pos rfl]
          simp only [cond_true] at h3
          refine he (ρ5.pin D) s5 σ4 H5 _ R5 ?_
          cases q6 : m s5 with
          | err y s6 => rw [q6] at h3; exact h3.elim
          | stuck => rw [q6] at h3; exact h3.elim
          | ok u s6 =>
            rw [q6] at h3
            intro ρ'6 H6 v x6 R6 r6
            obtain ⟨ρ6, rfl, y6, n6, e6⟩ := unpin_ext x6 R6 n5 e5
            have X6 := X5.trans y6
            dsimp only at h3
            have h3' : acc.length < sizeLine ∧ OkN X W ρ1 σ H1 (finL vs s1.env (compL vs g mt m (acc ++ [u]) (xs.drop (i + 1)) { s6 with env := wipeE s6.env vs })) Q := by
              unfold when at h3
              split at h3
              · rename_i e; exact ⟨of_decide_eq_true e, h3⟩
              · exact h3.elim
            have ra := (((racc.up lay1.toUp).up x4.toUp).up x5.toUp).up x6.toUp
            have wD : (ρ6.pin D).wr D := Rho.At.wr (.z (.inr rfl))
            have Rf := (R6.fill (o := .lst (vacc ++ [v])) trivial).wipe (vs := vs)
            rw [ew] at Rf
            have f6 : Ext (gx X) ρ1 H1 (ρ6.drop vs) (upd H6 D (.lst (vacc ++ [v]))) := by
              have Y := X6.trans (drop_ext (vs := vs))
              have nb : ∀ {b q}, H1 b = some q → b ≠ D := fun {b q} eb z => by rw [z, hD] at eb; cases eb
              exact ⟨⟨fun b q eb n t => ⟨by rw [upd_ne (nb eb)]; exact (Y.keep b q eb n t).1, (Y.keep b q eb n t).2⟩, Y.ss⟩, Y.Z, fun b q z eb t => by rw [upd_ne (nb eb)]; exact Y.zk b q z eb t⟩
            refine ⟨vacc, e6, by rw [← ra.length]; exact h3'.1, ρ6.drop vs, _, acc ++ [u], vacc ++ [v], f6, Rf, ?_, upd_same, ?_, fun w => n6 (drop_wr w), h3'.2⟩
            · intro i hi u e
              rw [show ({ s6 with env := wipeE s6.env vs } : MS).env = wipeE s6.env vs from rfl, wipeE_get, if_pos hi] at e
              split at e <;> cases e
            · exact ((ra.up (put_up wD)).up drop_ext.toUp).app (.cons ((r6.up (put_up wD)).up drop_ext.toUp) .nil)
  · have e : i = xs.length := by omega
    subst e
    rw [List.drop_length] at h2
    have et : ρ2.tm = none := R2.tm
    exact .inl ⟨stop rfl, h2 ρ2 H2 D (fun o e => by rw [hD] at e; cases e) x2 et nD (pin_tmp (R2.unwipe R1 xp hno nw2) nD) ⟨vacc, eD, racc.up (Up.same (fun a h => (tmp_wr et h).elim wr_pin fun z => by rw [z]; exact Rho.At.wr (.z (.inr rfl))) fun _ _ e => e)⟩⟩


section
variable {X : Cx} {W : WX} {e a b c o tg : Expr} {es ifs : List Expr} {m ma mb mc : M U} {ms : M (List U)} {mt : M Bool} {g : U → M Unit} {pos : Pos}
theorem sen_lc {elt iter : Expr} {scope : Scope} {own : List (Str × Nat)} {mi : M (List U)} (hc : X.calm = true) (hN : X.N.Nodup) (hi : SI X W tg iter mi) (ok : BlkOk X.N X.env.scope scope own) (hg : SGB X scope (own.map (·.2)) tg g) (ht : SB X scope fun Y => STs Y W0 ifs mt) (he : SB X scope fun Y => SE Y W0 elt m)
    (hs : ∀ x, foldedSetIterable iter X.env x = pure x := by intro _; rfl) : SEN X W (.ListComp elt [⟨tg, iter, ifs, 0⟩] scope pos) (lcM (own.map (·.2)) mi g mt m) := by
  obtain ⟨wi, pi, hi⟩ := hi
  obtain ⟨tg', pg, hg⟩ := hg
  exact ⟨_, pe_lc (te := tE X W0 m) (tt := tT X W0 mt) hc hN pi ok pg (fun s H C cl fp => (ht s H C cl fp).pts) (fun s H C cl fp => (he s H C cl fp).pe) hs, slcN (te := tE X W0 m) (tt := tT X W0 mt) hi hg (fun ρ s σ H Q R k => ⟨ρ, s, R, k⟩) fun ρ s σ H Q R k => ⟨ρ, s, R, k⟩⟩
end
end Mi

/-! Mini AG: the newer words evaluated. -/
namespace Mi
open PySem PySem.Spec PyProof.Rows L2
@[simp] theorem isTy_s (x : Str) : isTy "str" (.str x) = true := (rfl)
@[simp] theorem bwM_s (T : String) (mo : M U) (ms : M (List U)) (g : U → List U → M U) (s : MS) : bwM T mo ms g s = bindR (mo s) fun o => bd (ct o) fun c => when (isTy T c) (bd ms fun us => bd (ct o) fun c' => bd (cts us) fun us' => g c' us') := (rfl)
@[simp] theorem bwM0_s (T : String) (mo : M U) (g : U → List U → M U) (s : MS) : bwM0 T mo g s = bindR (mo s) fun o => bd (ct o) fun c => when (isTy T c) (g c []) := (rfl)
@[simp] theorem joinU_l (a : Str) (us : List U) : joinU (.str a) [.lst us] = joinO a us := (rfl)
theorem joinO_map (a : Str) (l : List Str) (s : MS) (h : (l.map (·.length)).sum + l.length * a.length ≤ 16777216) : joinO a (l.map .str) s = .ok (.str (Txt.join a l)) s := by
  unfold joinO; rw [strsU_map]; exact if_pos h
def oneX (cn : Str) (g : F) (p : U → Bool) (x : U) : U → M U
  | .obj c _ => when (decide (c = cn)) (bd (callF g [x]) fun r => when (p r) (ret r))
  | _ => stk
@[simp] theorem oneG_s (cn : Str) (g : F) (mo : M U) (p : U → Bool) (s : MS) : oneG cn g mo p s = bindR (mo s) fun u => bd (ct u) (oneX cn g p u) := by
  unfold oneG bd bindR
  cases mo s with
  | ok u s1 => dsimp only; cases ct u s1 with | ok c s2 => cases c <;> rfl | _ => rfl
  | _ => rfl
@[simp] theorem oneX_o (cn c : Str) (g : F) (p : U → Bool) (x : U) (fs : List (Str × U)) : oneX cn g p x (.obj c fs) = when (decide (c = cn)) (bd (callF g [x]) fun r => when (p r) (ret r)) := (rfl)
@[simp] theorem isStr_s (x : Str) : isStr (.str x) = true := (rfl)
theorem isLen_n {n : Nat} (h : n < 1000000) : isLen (.int (n : Int)) = true := by
  unfold isLen
  rw [Bool.and_eq_true, decide_eq_true_eq, decide_eq_true_eq]
  exact ⟨by omega, by omega⟩
@[simp] theorem binS_s (g : U → U → M U) (ma mb : M U) (s : MS) : binS g ma mb s = bindR (ma s) fun x => bd mb fun y => g x y := (rfl)
def notB (neg : Bool) : U → M U
  | .bl b => ret (.bl (xor neg b))
  | _ => stk
@[simp] theorem notB_b (neg b : Bool) : notB neg (.bl b) = ret (.bl (xor neg b)) := (rfl)
theorem eqG_o (neg : Bool) (cn : Str) (g : F) (x y : U) (s s1 s2 : MS) (c d : Str) (fs gs : List (Str × U)) (h1 : ct x s = .ok (.obj c fs) s1) (h2 : ct y s1 = .ok (.obj d gs) s2) (hc : c = cn) (hd : d = cn) : eqG neg cn g x y s = bd (callF g [x, y]) (notB neg) s2 := by
  subst hc hd
  unfold eqG
  rw [bd_ok h1]
  show bd (ct y) _ s1 = _
  rw [bd_ok h2]
  show when (decide (d = d) && decide (d = d)) _ s2 = _
  rw [decide_eq_true rfl, Bool.true_and, when_t]
  congr 1
theorem inG_o (neg : Bool) (cn : Str) (g : F) (x y : U) (s s2 : MS) (d : Str) (gs : List (Str × U)) (h2 : ct y s = .ok (.obj d gs) s2) (hd : d = cn) : inG neg cn g x y s = bd (callF g [y, x]) (notB neg) s2 := by
  subst hd
  unfold inG
  rw [bd_ok h2]
  show when (decide (d = d)) _ s2 = _
  rw [decide_eq_true rfl, when_t]
  congr 1
def jnX (r : Str → M Str) (acc : Str) : U → M Str
  | .str y => when (decide ((acc ++ y).length ≤ sizeLine)) (r (acc ++ y))
  | _ => stk
@[simp] theorem jnX_s (r : Str → M Str) (acc y : Str) : jnX r acc (.str y) = when (decide ((acc ++ y).length ≤ sizeLine)) (r (acc ++ y)) := (rfl)
@[simp] theorem jn_s (m : M U) (r : Str → M Str) (acc : Str) (s : MS) : jn m r acc s = bindR (m s) (jnX r acc) := by
  unfold jn bd bindR; cases m s with | ok u s1 => cases u <;> rfl | _ => rfl
@[simp] theorem fmt_s (y : Str) : fmtU (.str y) = when (decide (y.length ≤ sizeLine)) (ret (.str y)) := (rfl)
@[simp] theorem fmt_i (i : Int) : fmtU (.int i) = when (decide (i.natAbs.log2 < 1920)) (ret (.str (toString i))) := (rfl)
@[simp] theorem srtSet_s (x : Str) : srtSetU (.str x) = when (decide (x.cps.size < 64)) (ret (.lst ((srt ((signs x).foldl insT [])).map .str))) := (rfl)
@[simp] theorem lenSet_s (x : Str) : lenSetU (.str x) = when (decide (x.cps.size < 64)) (ret (.int ((signs x).foldl insT []).length)) := (rfl)
@[simp] theorem rev_s (z : Str) : revU (.str z) = when (decide (z.length ≤ sizeLine)) (ret (.str ⟨z.cps.toList.reverse.toArray⟩)) := (rfl)
def mkVX (cn : Str) (ms : M (List U)) (g : F) : U → M U
  | .cls c => when (decide (c = cn)) (bd ms (mkO cn g))
  | _ => stk
@[simp] theorem mkV_s (cn : Str) (mo : M U) (ms : M (List U)) (g : F) (s : MS) : mkV cn mo ms g s = bindR (mo s) (mkVX cn ms g) := by
  unfold mkV bd bindR; cases mo s with | ok u s1 => cases u <;> rfl | _ => rfl
@[simp] theorem mkVX_c (cn c : Str) (ms : M (List U)) (g : F) : mkVX cn ms g (.cls c) = when (decide (c = cn)) (bd ms (mkO cn g)) := (rfl)
def cmX (cn : Str) (ms : M (List U)) (g : F) (u : U) : U → M U
  | .cls c => when (decide (c = cn)) (bd ms fun us => callF g (u :: us))
  | _ => stk
@[simp] theorem cmM_s (cn : Str) (mo : M U) (ms : M (List U)) (g : F) (s : MS) : cmM cn mo ms g s = bindR (mo s) fun u => cmX cn ms g u u := by
  unfold cmM bd bindR; cases mo s with | ok u s1 => cases u <;> rfl | _ => rfl
@[simp] theorem cmX_c (cn c : Str) (ms : M (List U)) (g : F) (u : U) : cmX cn ms g u (.cls c) = when (decide (c = cn)) (bd ms fun us => callF g (u :: us)) := (rfl)
@[simp] theorem par2N_s (i j : Nat) (m : M U) (s : MS) : par2N i j m s = bindR (m s) fun u => bd (sto i u) fun _ => bd (sto j (.lst [])) fun _ => ret .nx := (rfl)
@[simp] theorem isLst_l (us : List U) : isLst (.lst us) = true := (rfl)
@[simp] theorem app_l (y : U) (us : List U) (h : us.length < sizeLine) : appU y (.lst us) = some (.lst (us ++ [y])) := if_pos h
@[simp] theorem appM_s (mo m : M U) (s : MS) : appM mo m s = bindR (mo s) fun o => bd (ct o) fun c => when (isLst c) (bd m fun y => bd (upC o (appU y)) fun _ => ret .non) := (rfl)
theorem bd_ret {α : Type} (a : α) : ∀ s : MS, (ret a : M α) s = .ok a s := fun s => (rfl)
end Mi

/-! Mini AH: isinstance of instances. -/
namespace Mi
open PySem PySem.Spec PyProof.Rows L2
def ktC (cl : List Str) : Tag → U → Option Bool
  | .b n, .ty m => kitB n m
  | .c c, .cls d => if c = d ∧ c ∈ cl then some true else none
  | _, _ => none
theorem ktC_ty (cl : List Str) : ∀ g u, ktC cl g u ≠ none → (∃ n, u = .ty n) ∨ ∃ n, u = .cls n := fun g u h => by
  cases g <;> cases u <;> first | exact .inl ⟨_, rfl⟩ | exact .inr ⟨_, rfl⟩ | exact absurd rfl h
theorem ktC_b (cl : List Str) (n : String) : ktC cl (.b n) = ktB (.b n) := by funext u; cases u <;> rfl
theorem isi_b (cl : List Str) (x c : U) (n : String) (h : tagU x = some (.b n)) : isiU (ktC cl) [x, c] = isiU ktB [x, c] := by
  unfold isiU
  simp only [h, ktC_b]
@[simp] theorem isi_bi (cl : List Str) (i : Int) (c : U) : isiU (ktC cl) [.int i, c] = isiU ktB [.int i, c] := isi_b cl _ _ "int" (rfl)
@[simp] theorem isi_bs (cl : List Str) (i : Str) (c : U) : isiU (ktC cl) [.str i, c] = isiU ktB [.str i, c] := isi_b cl _ _ "str" (rfl)
@[simp] theorem isi_bb (cl : List Str) (i : Bool) (c : U) : isiU (ktC cl) [.bl i, c] = isiU ktB [.bl i, c] := isi_b cl _ _ "bool" (rfl)
@[simp] theorem isi_bn (cl : List Str) (c : U) : isiU (ktC cl) [.non, c] = isiU ktB [.non, c] := isi_b cl _ _ "NoneType" (rfl)
@[simp] theorem isi_bt (cl : List Str) (i : List U) (c : U) : isiU (ktC cl) [.tup i, c] = isiU ktB [.tup i, c] := isi_b cl _ _ "tuple" (rfl)
@[simp] theorem isi_bl (cl : List Str) (i : List U) (c : U) : isiU (ktC cl) [.lst i, c] = isiU ktB [.lst i, c] := isi_b cl _ _ "list" (rfl)
theorem isi_o {cl : List Str} {c : Str} (h : c ∈ cl) (fs : List (Str × U)) : isiU (ktC cl) [.obj c fs, .cls c] = ret (.bl true) := by
  funext s
  show (match ktC cl (.c c) (.cls c) with | some b => Res.ok (U.bl b) s | none => Res.stuck) = _
  rw [show ktC cl (.c c) (.cls c) = some true from if_pos ⟨rfl, h⟩]
  rfl
open PySem.W in
def ktcB (c : Str) (K : PySem.W.Frag) : Bool := He.eqO (findIn K (.ref (He.ga K c)) "__class__") (some (some (.builtin "object.__class__"))) && (He.eqO (specialIn K (.builtin "object.__class__") "__get__") (some (some (.builtin "getset_descriptor.__get__"))) &&
  (decide (takesIn K (.builtin "object.__class__") = some true) && (decide (mroIn K (He.ga K c) (.type "object") = some true) && decide (kitOne K (.ref (He.ga K c)) (.ref (He.ga K c)) = some true))))
/-- a class whose instances may be asked: it is there, or it is not -/
def KtcF (G : Gx) (c : Str) : Prop := G.mg c = none ∨ (G.mg c = some (.ref (He.ga G.K c)) ∧ Cls G.K (He.ga G.K c) ∧ ktcB c G.K = true)
theorem ktC_ok {G : Gx} {cl : List Str} (h : ∀ c ∈ cl, KtcF G c) : KT G (ktC cl) := by
  refine ⟨fun c C ⟨u, b, e⟩ m => ?_, fun n m b e => kit_ty e, fun n c C b e => (by cases e), fun c C m b e => (by cases e), fun c C d D b e mc md => ?_⟩
  · have hc : c ∈ cl := by
      cases u with
      | cls d =>
        have e : (if c = d ∧ c ∈ cl then some true else none) = some b := e
        by_cases q : c = d ∧ c ∈ cl
        · exact q.2
        · rw [if_neg q] at e; cases e
      | _ => cases e
    rcases h c hc with z | ⟨z, k, q⟩
    · rw [z] at m; cases m
    · rw [z] at m; cases m
      unfold ktcB at q
      simp only [Bool.and_eq_true, decide_eq_true_eq] at q
      exact ⟨k, He.eqO_ok q.1, He.eqO_ok q.2.1, q.2.2.1, q.2.2.2.1⟩
  · have e : (if c = d ∧ c ∈ cl then some true else none) = some b := e
    by_cases q : c = d ∧ c ∈ cl
    · rw [if_pos q] at e
      cases e
      obtain ⟨rfl, hc⟩ := q
      rcases h c hc with z | ⟨z, k, q⟩
      · rw [z] at mc; cases mc
      · rw [z] at mc md; cases mc; cases md
        unfold ktcB at q
        simp only [Bool.and_eq_true, decide_eq_true_eq] at q
        exact q.2.2.2.2
    · rw [if_neg q] at e; cases e
end Mi

/-! Mini AI: comprehensions with a test, evaluated. -/
namespace Mi
open PySem PySem.Spec PyProof.Rows L2
/-- one turn with a test -/
def FStep {α : Type} (vs : List Nat) (g : U → M Unit) (t : M Bool) (e : M U) (E : List Sl) (st : List U) (r f : α → U) (q : α → Bool) (x : α) : Prop :=
  ∃ E1, (g (r x) ⟨E, st⟩ = .ok () ⟨E1, st⟩ ∧ t ⟨E1, st⟩ = .ok (q x) ⟨E1, st⟩) ∧ (q x = true → ∃ E2, e ⟨E1, st⟩ = .ok (f x) ⟨E2, st⟩ ∧ wipeE E2 vs = E) ∧ (q x = false → wipeE E1 vs = E)
theorem compL_filt {α : Type} {vs : List Nat} {g : U → M Unit} {t : M Bool} {e : M U} {E : List Sl} {st : List U} (r f : α → U) (q : α → Bool) : ∀ (xs : List α) (acc : List U), (∀ x ∈ xs, FStep vs g t e E st r f q x) → acc.length + xs.length ≤ sizeLine →
    compL vs g t e acc (xs.map r) ⟨E, st⟩ = .ok (acc ++ (xs.filter q).map f) ⟨E, st⟩
  | [], acc, _, _ => by show Res.ok acc _ = _; simp
  | x :: xs, acc, h, hl => by
    obtain ⟨E1, ⟨e1, e2⟩, ht, hf⟩ := h x (by simp)
    simp only [List.length_cons] at hl
    rw [List.map_cons]
    unfold compL
    rw [bd_ok e1, bd_ok e2]
    cases k : q x with
    | false =>
      show compL vs g t e acc (xs.map r) ⟨wipeE E1 vs, st⟩ = _
      rw [hf k, compL_filt r f q xs acc (fun y hy => h y (by simp [hy])) (by omega), List.filter_cons_of_neg (by rw [k]; exact Bool.false_ne_true)]
    | true =>
      obtain ⟨E2, e3, e4⟩ := ht k
      show bd e _ ⟨E1, st⟩ = _
      rw [bd_ok e3, when_d (show acc.length < sizeLine by omega)]
      show compL vs g t e (acc ++ [f x]) (xs.map r) ⟨wipeE E2 vs, st⟩ = _
      rw [e4, compL_filt r f q xs (acc ++ [f x]) (fun y hy => h y (by simp [hy])) (by simp only [List.length_append, List.length_cons, List.length_nil]; omega), List.filter_cons_of_pos k]
      simp
theorem lc_filt {α : Type} (r f : α → U) (q : α → Bool) {xs : List α} {vs : List Nat} {mi : M (List U)} {g : U → M Unit} {t : M Bool} {e : M U} {s : MS} {E0 : List Sl} {st : List U} (h1 : mi s = .ok (xs.map r) ⟨E0, st⟩) (hn : noOwn E0 vs = true)
    (he : ∀ x ∈ xs, FStep vs g t e (wipeE E0 vs) st r f q x) (hl : xs.length ≤ sizeLine) : lcM vs mi g t e s = .ok (.lst ((xs.filter q).map f)) ⟨E0, st⟩ := by
  unfold lcM
  rw [bd_ok h1]
  show when (noOwn E0 vs) _ _ = _
  rw [hn]
  show finL vs E0 (compL vs g t e [] (xs.map r) ⟨wipeE E0 vs, st⟩) = _
  rw [compL_filt r f q xs [] he (by simpa using hl)]
  show Res.ok (U.lst ([] ++ (xs.filter q).map f)) (⟨backE E0 (wipeE E0 vs) vs, st⟩ : MS) = _
  rw [back_wipe]; rfl
end Mi
namespace Mi
open PySem PySem.Spec PyProof.Rows L2
def popX (o : U) : U → M U
  | .int i => when (decide (-(2 ^ 63) ≤ i) && decide (i < 2 ^ 63)) (upX o (popP i))
  | _ => stk
@[simp] theorem popM_s (mo mi : M U) (s : MS) : popM mo mi s = bindR (mo s) fun o => bd (ct o) fun c => when (isLst c) (bd mi (popX o)) := by
  unfold popM bd bindR
  cases mo s with
  | ok u s1 =>
    dsimp only
    cases ct u s1 with
    | ok c s2 =>
      dsimp only [when]
      split
      · cases mi s2 with | ok i s3 => cases i <;> rfl | _ => rfl
      · rfl
    | _ => rfl
  | _ => rfl
theorem popX_k (o : U) (k : Nat) (h : k < 1000000) : popX o (.int (k : Int)) = upX o (popP (k : Int)) := by
  show when (decide (-(2 ^ 63) ≤ (k : Int)) && decide ((k : Int) < 2 ^ 63)) _ = _
  rw [decide_eq_true (show -(2 ^ 63) ≤ (k : Int) by omega), decide_eq_true (show (k : Int) < 2 ^ 63 by omega)]
  rfl
theorem upX_slot {e : List Sl} {st : List U} {i : Nat} {c c' y : U} {f : U → Option (U × U)} (h : e[i]? = some (.own c)) (h2 : f c = some (y, c')) : upX (.slot i) f ⟨e, st⟩ = .ok y ⟨e.set i (.own c'), st⟩ := by
  unfold upX
  simp only [h, h2]
end Mi

/-! Mini AJ: targets that take a list of the store apart. -/
namespace Mi
open PySem PySem.Spec PyProof.Rows L2
def gtupC (n : Nat) (gs : List U → M Unit) : U → M Unit
  | .ref j => fun s => match s.st[j]? with
    | some (.lst us) => when (us.length == n) (gs us) s
    | _ => .stuck
  | .tup us => when (us.length == n) (gs us)
  | .lst us => when (us.length == n) (gs us)
  | _ => stk
@[simp] theorem gtupC_t (n : Nat) (gs : List U → M Unit) (us : List U) : gtupC n gs (.tup us) = when (us.length == n) (gs us) := (rfl)
@[simp] theorem gtupC_l (n : Nat) (gs : List U → M Unit) (us : List U) : gtupC n gs (.lst us) = when (us.length == n) (gs us) := (rfl)
theorem gtupC_r {n : Nat} {gs : List U → M Unit} {j : Nat} {us : List U} {e : List Sl} {st : List U} (h : st[j]? = some (.lst us)) : gtupC n gs (.ref j) ⟨e, st⟩ = when (us.length == n) (gs us) ⟨e, st⟩ := by
  show (match st[j]? with | some (.lst us) => when (us.length == n) (gs us) ⟨e, st⟩ | _ => Res.stuck) = _
  rw [h]
theorem sg_tupC {X : Cx} {W : WX} {pos : Pos} {gs : List U → M Unit} {ts : List Expr} {k n : Nat} (hc : X.calm = true) (h : SGs X W ts gs) (hn : (assignEach ts X.env).length = n := by rfl) (hst : (assignEach ts X.env).findIdx? (·.1) = none := by rfl) : SG X W (.Tuple ts k pos) (gtupC n gs) := by
  obtain ⟨t, p, h⟩ := h
  refine ⟨_, pg_seq hc p hn hst, fun ρ s σ H u v Q R r k => ?_⟩
  cases r with
  | tup q rs =>
    obtain ⟨e, k⟩ := OkG.when k
    exact .inl ⟨_, _, rfl, q.sq, by rw [← rs.length]; exact beq_iff_eq.mp e, h ρ s σ H _ _ Q R rs k⟩
  | lst q rs =>
    obtain ⟨e, k⟩ := OkG.when k
    exact .inr ⟨_, _, rfl, q.sq, by rw [← rs.length]; exact beq_iff_eq.mp e, h ρ s σ H _ _ Q R rs k⟩
  | @ref j a hs =>
    have k : OkG X W ρ H (match s.st[j]? with | some (.lst us) => when (us.length == n) (gs us) s | _ => .stuck) Q := k
    cases q : s.st[j]? with
    | none => rw [q] at k; exact k.elim
    | some w =>
      rw [q] at k
      cases w with
      | lst us =>
        obtain ⟨e, k⟩ := OkG.when k
        obtain ⟨a', e1, vs, e2, rs⟩ := R.sto j _ q
        rw [hs] at e1; cases e1
        exact .inr ⟨_, _, rfl, .of e2, by rw [← rs.length]; exact beq_iff_eq.mp e, h ρ s σ H _ _ Q R rs k⟩
      | _ => exact k.elim
  | _ => exact k.elim
end Mi

/-! Mini AK: an attribute as a target within a tuple of targets. -/
namespace Mi
open PySem PySem.Spec PyProof.Rows L2
section
variable {X : Cx} {W : WX} {o : Expr} {ma : M U} {pos : Pos} {fl : Str → Str → Bool} {f : Str} {to : TE}
def gFld (K : PySem.W.Frag) (ta : TE) (f : Str) : TG := fun y σ H Q => ta σ H fun x H2 => ∃ a C dx fs, x = .ref a ∧ H2 a = some (.ins C dx fs) ∧ Cls K C ∧ NoAttr K C f ∧ fs.length < 1000 ∧ Q σ (upd H2 a (.ins C dx (putF f y fs)))
theorem pg_fld (ho : PE X o to) : PG X (.Attribute o f pos) (gFld X.K to f) := by
  refine ⟨fun pins s σ H v u Q I r h => ?_⟩
  rw [assign_Attribute]
  refine wpAny_bind (wpAny_holding (thn (ho.run pins s σ H _ I h) fun ov s1 ⟨x, H1, I1, r1, a, C, dx, fs, ex, ea, c, n, l, q1⟩ => ?_))
  subst ex
  obtain rfl : ov = Value.ref a := r1
  refine wpAny_bind (wpAny_standAt (wpAny_bind (wpAny_holding (setattr_ok I1 ea c n l r fun s3 I3 => ?_))))
  exact wpAny_release ⟨σ, _, I3, q1⟩
theorem sg_fld (T : FldT (gx X) fl) (ho : SE0 X W o ma) : SG X W (.Attribute o f pos) (fun y => bd ma fun x => upC x (setA fl f y)) := by
  obtain ⟨t, p, ho⟩ := ho
  refine ⟨_, pg_fld p, fun ρ s σ H u v Q R r h => ?_⟩
  refine ho ρ s σ H _ R (OkG.bdE h fun x s2 ρ2 H2 z _ x2 R2 r2 h2 => ?_)
  have ry := r.up x2.toUp
  rcases upC_ok (f := setA fl f u) R2 r2 with ⟨ad, cc, c', s', rfl, w, nz, ow, ef, es, hw⟩ | es
  · rw [es] at h2
    cases cc with
    | obj c us =>
      have ef : (if (fl c f && decide (us.length < 1000)) = true then some (U.obj c (putA f u us)) else none) = some c' := ef
      by_cases g : (fl c f && decide (us.length < 1000)) = true
      · rw [if_pos g] at ef
        cases ef
        rw [Bool.and_eq_true] at g
        obtain ⟨C, dx, vs, mc, eh, r⟩ := ow
        obtain ⟨c0, n0⟩ := T c f C g.1 mc
        have up2 : Up (gx X) ρ2 H2 ρ2 (upd H2 ad (.ins C dx (putF f v vs))) := put_up w
        obtain ⟨x3, R3⟩ := hw (.ins C dx (putF f v vs)) ⟨C, dx, _, mc, upd_same, (r.put ry).up up2⟩
        exact ⟨ad, C, dx, vs, rfl, eh, c0, n0, by rw [← r.length]; exact of_decide_eq_true g.2, h2 _ σ _ x3 R3⟩
      · rw [if_neg g] at ef; cases ef
    | _ => cases ef
  · rw [es] at h2; exact h2.elim
end
end Mi

/-! Mini AL: if (x := e) op f. -/
namespace Mi
open PySem PySem.Spec PyProof.Rows L2
section
variable {X : Cx} {W : WX} {e b : Expr} {m mb : M U} {pos p1 p2 : Pos} {body orelse : List Stmt} {n1 n2 : Sm}
def ifW (i : Nat) (m : M U) (g : U → U → M U) (mb : M U) (n1 n2 : Sm) : Sm := bd m fun u => bd (stv i u) fun _ => bd mb fun w => bd (bd (ct u) fun u' => bd (ct w) fun w' => g u' w') fun z => bd (asB z) fun k => bif k then n1 else n2
theorem ss_ifW {i : Nat} {x : Str} {p' : Pos} {op : CmpOp} {r : R2} {g : U → U → M U} (hN : X.N.Nodup) (hi : X.N[i]? = some x) (hx : Loc X.env.scope x) (he : SE X W e m) (ho : OpR X (compareOp op) r) (hg : Bears X W r g) (hm : behindInMarks op b = false) (hb : SE0 X W b mb) (ha : SSs X W body n1) (hc : SSs X W orelse n2)
    (hf : X.fn x = true ∨ X.env.scope.names.lookup x = some .local := by first | exact .inl rfl | exact .inr rfl | assumption) :
    SS X W (.If (.Compare (.NamedExpr (.Name x p') e p1) [op] [b] p2) body orelse pos) (ifW i m g mb n1 n2) := by
  obtain ⟨t, p, he⟩ := he
  obtain ⟨tb, pb, hb⟩ := hb
  obtain ⟨t1, q1, ha⟩ := ha
  obtain ⟨t2, q2, hc⟩ := hc
  refine ⟨_, ps_ifW (ptw_cmp ho (pew_named hN hi hx (pew_of p) hf) pb hm) q1 q2, fun ρ s σ H D R k => ?_⟩
  refine he ρ s σ H _ R (OkS.bdE k fun u s1 ρ1 H1 v _ x1 R1 r1 h1 => ?_)
  have R1' := R1.set i r1
  have h1' : OkS X W ρ1 H1 (bd mb (fun w => bd (bd (ct u) fun u' => bd (ct w) fun w' => g u' w') fun z => bd (asB z) fun k => bif k then n1 else n2) { s1 with env := s1.env.set i (.val u) }) D := h1
  have h1' := h1'.ext (ρ' := ρ1.free i) (H' := H1) free_ext
  have r1' := r1.up (free_ext (i := i)).toUp
  refine hb (ρ1.free i) _ _ H1 _ R1' (OkS.bdE h1' fun w s2 ρ2 H2 z _ x2 R2 r2 h2 => ?_)
  have h3 : OkV X W ρ2 (σ.set i (some v)) H2 ((bd (ct u) fun u' => bd (ct w) fun w' => g u' w') s2) (fun zz H3 => ∃ k, zz = V.bl k ∧ if k = true then t1 D (σ.set i (some v)) H3 else t2 D (σ.set i (some v)) H3) := OkS.bdE h2 fun y s3 ρ3 H3 z3 eq x3 R3 r3 h3 => by
    clear eq
    cases r3 with
    | bl =>
      rename_i k
      refine ⟨_, rfl, ?_⟩
      cases k with
      | true => exact ha ρ3 s3 _ H3 D R3 h3
      | false => exact hc ρ3 s3 _ H3 D R3 h3
    | _ => exact h3.elim
  obtain ⟨u', c1, h4⟩ := ct_con R2 (r1'.up x2.toUp).e h3
  obtain ⟨w', c2, h5⟩ := ct_con R2 r2 h4
  exact hg ρ2 s2 _ H2 u' w' v z _ R2 c1 c2 h5
end
end Mi

/-! Mini AM: (*t, x, ..). -/
namespace Mi
open PySem PySem.Spec PyProof.Rows L2
section
variable {X : Cx} {W : WX} {e : Expr} {es : List Expr} {m : M U} {ms : M (List U)} {pos p : Pos}
def seqS : U → M (List U)
  | .tup xs => ret xs
  | .lst xs => ret xs
  | _ => stk
theorem se_tupS {x1} (he : SE X W e m) (h : SA X W es ms) (hs : starEach (.Starred e p :: es) X.env = (true, eval e X.env) :: starEach es X.env := by rfl) : SE X W (.Tuple (.Starred e p :: es) x1 pos) (bd m fun u => bd (seqS u) fun xs => bd ms fun us => mkT (xs ++ us)) := by
  obtain ⟨te, q, he⟩ := he
  obtain ⟨⟨t, pa, h⟩, _⟩ := h
  refine ⟨_, pe_tup (StX.pa_star q pa hs), fun ρ s σ H Q R k => ?_⟩
  refine he ρ s σ H _ R (k.bd fun u s1 ρ1 H1 v _ x1 R1 r1 h1 => ?_)
  cases r1 with
  | tup a rs =>
    have h1 : OkV X W ρ1 σ H1 (bd ms (fun us => mkT (_ ++ us)) s1) Q := h1
    refine ⟨_, _, rfl, .inl a.sq, h ρ1 s1 σ H1 _ R1 (h1.bd fun us s2 ρ2 H2 vs _ x2 R2 r2 h2 => ?_)⟩
    have r3 := (rs.up x2.toUp).app r2
    obtain ⟨e, h2⟩ := h2.when
    exact ⟨by rw [← r3.length]; exact of_decide_eq_true e, new_tup h2 R2 r3⟩
  | lst a rs =>
    have h1 : OkV X W ρ1 σ H1 (bd ms (fun us => mkT (_ ++ us)) s1) Q := h1
    refine ⟨_, _, rfl, .inr a.sq, h ρ1 s1 σ H1 _ R1 (h1.bd fun us s2 ρ2 H2 vs _ x2 R2 r2 h2 => ?_)⟩
    have r3 := (rs.up x2.toUp).app r2
    obtain ⟨e, h2⟩ := h2.when
    exact ⟨by rw [← r3.length]; exact of_decide_eq_true e, new_tup h2 R2 r3⟩
  | _ => exact h1.elim
end
end Mi

/-! Mini AN: empty tuples as defaults of keyword-only names. -/
namespace Mi
open PySem PySem.Spec PyProof.Rows L2
/-- the default of the keyword-only name x of the def at p, if it is an object -/
def kwdAt (p : Str × Option Str) (x : Str) (K : PySem.W.Frag) : Addr := match K.lookup (He.fAd K p) with
  | some ⟨_, _, .func fd, _⟩ => (match fd.kwdefaults with
    | .ref D => (match PySem.W.nsIn K D x with
      | some (some (.ref a)) => a
      | _ => 0)
    | _ => 0)
  | _ => 0
/-- an empty tuple among a def's keyword-only defaults -/
def tupKB (p : Str × Option Str) (x : Str) (K : PySem.W.Frag) : Bool := match K.lookup (kwdAt p x K) with
  | some ⟨.type c, _, .seq its _, _⟩ => decide (c = "tuple") && decide (its.toList.length = 0)
  | _ => false
theorem tupKB_ok {K : PySem.W.Frag} {p : Str × Option Str} {x : Str} (h : tupKB p x K = true) : SqT K (fun _ => none) (kwdAt p x K) [] := by
  unfold tupKB at h
  cases q : K.lookup (kwdAt p x K) with
  | none => rw [q] at h; cases h
  | some o =>
    obtain ⟨oc, od, dt, osl⟩ := o
    rw [q] at h
    cases oc with
    | type c =>
      cases dt with
      | seq its n =>
        have h : (decide (c = "tuple") && decide (its.toList.length = 0)) = true := h
        simp only [Bool.and_eq_true, decide_eq_true_eq] at h
        have e : its.toList = [] := List.length_eq_zero_iff.mp h.2
        refine .inr ⟨_, its, n, q, congrArg Value.type h.1, rfl, ?_, by rw [e]; exact .nil⟩
        rw [← Array.length_toList, e]; exact Nat.zero_le _
      | _ => cases h
    | _ => cases dt <;> cases h
end Mi

/-! Mini AO: C(e, .., k = v, ..). -/
namespace Mi
open PySem PySem.Spec PyProof.Rows L2
section
variable {X : Cx} {W : WX} {e : Expr} {es : List Expr} {ms : M (List U)} {pos : Pos}
theorem run_mkK {C : Addr} {k n : Nat} {ks : List Str} {f : Addr} {pins : List (Addr × Obj)} {σ : L2.St} {H : Hp} {s : Shared} {Q : VK} {us ws : List Value} {vs zs : List V} {g : F} (M : Mk X.K C f) (Fn : FnK X.prog X.w (gx X) X.base k f (n + 1) ks g) (tk : Takes X W) (hr : Room (k + 1) X.A) (I : Inv X pins σ H s) (r : Vals vs us) (rz : Vals zs ws) (l1 : vs.length = n) (l2 : zs.length = ks.length)
    (h : ∀ x dx, H x = none → H dx = none → dx ≠ x → spR (gx X) g (V.ref x :: (vs ++ zs)) (upd (upd H dx (.own x)) x (.ins C dx [])) (fun v H2 => v = .non ∧ Q (.ref x) H2) (WE W σ)) :
    wpAny (model X.prog X.w) X.A (call (.ref C) us (ks.zip ws)) (EP X pins σ Q) X.xe s := by
  have J := Inv.made (C := C) I
  have hs := h (s.heap.objs.size + 1) s.heap.objs.size (I.hok.fresh (Nat.le_succ _)) (I.hok.fresh (Nat.le_refl _)) (Nat.ne_of_lt (Nat.lt_succ_self _))
  have rv : Vals (V.ref (s.heap.objs.size + 1) :: vs) (Value.ref (s.heap.objs.size + 1) :: us) := .cons rfl r
  refine wpAny_call (make_map (f := f) I.kIn M.makes M.init (beq_iff_eq.mp M.fn) ?_)
  refine codeAny_mono (Fn _ X.stack _ _ _ ws _ zs _ _ (hr.make C us (ks.zip ws)) (J.env0.make C us (ks.zip ws)) rv rz (by rw [List.length_cons, l1]) l2 hs) fun r s' hq => ?_
  cases r with
  | error e => exact passAt tk σ pins _ _ e s' J hq
  | ok fl =>
    cases fl with
    | ret u =>
      obtain ⟨v, H', I3, rv, ev, q3⟩ := J.after hq
      subst ev
      exact ⟨rv, ⟨V.ref (s.heap.objs.size + 1), H', I3, rfl, q3⟩⟩
    | _ => exact False.elim hq
theorem sen_makeK {x : Str} {p : Pos} {k n : Nat} {f C : Addr} {ks : List Str} {g : F} {kws : List Keyword} {mk : M (List U)} (M : Mk X.K C f) (Fn : FnK X.prog X.w (gx X) X.base k f (n + 1) ks g) (tk : Takes X W) (hr : Room (k + 1) X.A) (hg : Gl X x) (hm : X.mg x = some (.ref C))
    (ha : SA X W (e :: es) ms) (hkw : SK X W kws mk) (hn : (e :: es).length = n) (hall : (backToKw pos (keywordEach kws X.env)).all (·.1.isSome) = true := by rfl) (hks : (backToKw pos (keywordEach kws X.env)).filterMap (·.1) = ks := by rfl)
    (hdb : (x == ("__debug__" : Str)) = false := by decide) (he : starEach (e :: es) X.env = (false, eval e X.env) :: starEach es X.env := by rfl)
    (hpl : ((backTo pos (starEach (e :: es) X.env)).any (·.1) || (backToKw pos (keywordEach kws X.env)).any (·.1.isNone)) = false := by rfl) :
    SEN X W (.Call (.Name x p) (e :: es) kws pos) (bd ms fun us => bd mk fun ws => when (us.length == n && ws.length == ks.length) (mkO x g (us ++ ws))) := by
  obtain ⟨⟨t, pa, h⟩, _⟩ := ha
  obtain ⟨tk', pk, hk'⟩ := hkw
  refine ⟨fun σ H Q => t σ H fun vs H1 => tk' σ H1 fun zs H2 => vs.length = n ∧ zs.length = ks.length ∧ ∀ x dx, H2 x = none → H2 dx = none → dx ≠ x → spR (gx X) g (V.ref x :: (vs ++ zs)) (upd (upd H2 dx (.own x)) x (.ins C dx [])) (fun v H3 => v = .non ∧ Q (.ref x) H3) (WE W σ), ⟨fun pins s σ H Q I k => ?_⟩, fun ρ s σ H Q R k => ?_⟩
  · refine wpAny_Call_Name_kw (ld_glob I hg hm ?_ hdb)
    refine PySem.W.callWith_KW (h₀ := X.base) I.ok.mod.kin M.kp hall (thn (pa.run pos pins s σ H _ I k) fun us s1 ⟨vs, H1, I1, r, q⟩ => ?_) hpl he
    refine thn (pk.run pos pins s1 σ H1 _ I1 q) fun ws s2 ⟨zs, H2, I2, rz, l1, l2, q2⟩ => ⟨I2.kIn, ?_⟩
    rw [hks]
    exact run_mkK M Fn tk hr I2 r rz l1 l2 q2
  · refine h ρ s σ H _ R (k.bd fun us s1 ρ1 H1 vs e1 x1 R1 r1 h1 => ?_)
    refine hk' ρ1 s1 σ H1 _ R1 (h1.bd fun ws s2 ρ2 H2 zs e2 x2 R2 r2 h2 => ?_)
    have z : (us.length == n && ws.length == ks.length) = true := by
      cases z : (us.length == n && ws.length == ks.length) with
      | true => rfl
      | false => unfold when at h2; rw [z] at h2; exact h2.elim
    have h2 : OkN X W ρ2 σ H2 (mkO x g (us ++ ws) s2) Q := by unfold when at h2; rw [z] at h2; exact h2
    rw [Bool.and_eq_true] at z
    exact ⟨by rw [← r1.length]; exact beq_iff_eq.mp z.1, by rw [← r2.length]; exact beq_iff_eq.mp z.2, fun a dx ha hd ne => mkO_run hm R2 ((r1.up x2.toUp).app r2) h2 ha hd ne⟩
end
end Mi

/-! Mini XA: an own exception whose __init__ says super().__init__(text), self.f = f, self.code = text: the library's level. -/
namespace Mx
open PySem PySem.W PySem.Calls PyProof.Rows PySem.Spec PyProof.V
open Builtin Builtin.ObjectAttr
/-- the built-in class at the chain's end -/
structure BaseK (B newId initId : String) (bmB : List Value) : Prop where
  FB : ExcBaseFacts B newId initId bmB
  SF : StoreFacts B bmB "object.__setattr__" "object"
  KF : KxsFacts B initId
abbrev bmVE : List Value := [.type "ValueError", .type "Exception", .type "BaseException", .type "object"]
abbrev bmLE : List Value := [.type "LookupError", .type "Exception", .type "BaseException", .type "object"]
abbrev bmIE : List Value := [.type "IndexError", .type "LookupError", .type "Exception", .type "BaseException", .type "object"]
theorem bVE : BaseK "ValueError" "ValueError.__new__" "ValueError.__init__" bmVE := ⟨F.excBase_ValueError, F.store_ValueError, kxs_ValueError⟩
theorem bLE : BaseK "LookupError" "LookupError.__new__" "LookupError.__init__" bmLE := ⟨F.excBase_LookupError, F.store_LookupError, kxs_LookupError⟩
theorem bIE : BaseK "IndexError" "IndexError.__new__" "IndexError.__init__" bmIE := ⟨F.excBase_IndexError, F.store_IndexError, kxs_IndexError⟩
/-- what the written part says of the class -/
structure ExK (K : Frag) (C fI : Addr) (B newId initId : String) (bmB : List Value) : Prop where
  q : excInitIn K C bmB newId = true
  hp : excOver K C bmB = true
  hi : findIn K (.ref C) "__init__" = some (some (.ref fI))
  isF : isFn K (.ref fI) = true
  hs : findIn K (.ref C) "__setattr__" = some (some (.builtin "object.__setattr__"))
  hd : hasDictIn K C = true
  sup : ks_superIn K C C "__init__" = some (some (.builtin initId))
  hB : subIn K (.ref C) (.type B) = some true
  hC : mroIn K C (.ref C) = some true
  nos : nsIn K cStatics "thirdparty.any" = some none
  exB : subIn K (.ref C) (.type "BaseException") = some true
  ty : typeIn K (.ref C) = some (.type "type")
  kC : keepIn K (.ref C) = true
section
variable {prog : Program} {w : World} {A : Around} {E : Value → Shared → Prop} {K : Frag} {C fI x t0 dx : Addr} {B newId initId : String} {bmB : List Value} {hp : Heap} {g : Array GenState} {d : Drawn} {t : Nat} {os : OsState} {name : Str} {v : Value} {Q : Unit → Shared → Prop}
theorem set_new (BK : BaseK B newId initId bmB) (T : ExK K C fI B newId initId bmB) (X : K.In hp) (hx : hp.get? x = some (excObj C t0 none .none)) (ht : takerIn K C name = some none)
    (hq : ∀ h' tk' dx, (∀ b o, b ≠ x → hp.get? b = some o → h'.get? b = some o) → hp.objs.size ≤ dx → dx ≠ x → h'.get? x = some (excObj C t0 (some dx) .none) → h'.Ns1 dx (fun y => if y = name then some v else none) → Q () ⟨h', g, d, tk', os⟩) :
    wpAny (model prog w) A (setAttr (.ref x) name v) Q E ⟨hp, g, d, t, os⟩ := by
  have hxs : x ≠ hp.objs.size := Nat.ne_of_lt (Heap.lt_size hx)
  refine set_plain (od := none) X ⟨hx, rfl, rfl, trivial⟩ T.hs (osa_openX (od := none) BK.SF X ⟨hx, rfl, rfl, trivial⟩ T.hp ht fun b => ?_)
  obtain ⟨cd, hc, hd'⟩ := any_some T.hd
  have hcls : W.Looks (model prog w) hp (classData C) cd := W.looks_clsIn X hc
  obtain ⟨nm, bs, mro, ns, qn, hd, sn, sb, ab, col, del⟩ := cd
  dsimp only at hd'
  subst hd'
  show wpAny _ _ (storeInOwnDict (.ref x) (.ref C) (.str name _) name v b) _ _ _
  unfold storeInOwnDict ownDictForStores
  repeat (first | with_reducible refine PX.store_in_new ?_ ?_ | with_reducible refine wpAny_loadPart_at hx ?_ | with_reducible refine hcls.at ?_ | wp_step)
  · exact ⟨_, #[], _, (Heap.get?_update_ne _ _ _ _ hxs.symm).trans (Heap.get?_push_at rfl rfl), rfl, fun e he => absurd he (by simp), fun _ => rfl⟩
  · intro h' tk' hn' hs
    have hx₁ : (hp.push { cls := .type "dict", data := .dict #[] }).get? x = some (excObj C t0 none .none) := Heap.get?_push_of_some _ hx
    refine hq h' tk' hp.objs.size (fun b o hb ho => ?_) (Nat.le_refl _) hxs.symm ?_ hn'
    · exact (hs.2 b (Nat.ne_of_lt (Heap.lt_size ho))).trans ((Heap.get?_update_ne _ _ _ _ hb).trans (Heap.get?_push_of_some _ ho))
    · exact (hs.2 x hxs).trans (Heap.get?_update_self _ hx₁ rfl)
theorem set_old {m0 : Str → Option Value} {nl : List Str} (BK : BaseK B newId initId bmB) (T : ExK K C fI B newId initId bmB) (X : K.In hp) (hx : hp.get? x = some (excObj C t0 (some dx) .none)) (hns : hp.Ns1 dx m0) (hw : Within m0 nl) (hz : nl.length ≤ 1000) (ht : takerIn K C name = some none)
    (hq : ∀ h' tk', (∀ b o, b ≠ dx → hp.get? b = some o → h'.get? b = some o) → h'.Ns1 dx (fun y => if y = name then some v else m0 y) → Q () ⟨h', g, d, tk', os⟩) :
    wpAny (model prog w) A (setAttr (.ref x) name v) Q E ⟨hp, g, d, t, os⟩ := by
  obtain ⟨oD, esD, epD, hoD, hdD, _⟩ := hns.count hw
  refine set_plain (od := some oD) X ⟨hx, rfl, rfl, hoD⟩ T.hs (osa_openX (od := some oD) BK.SF X ⟨hx, rfl, rfl, hoD⟩ T.hp ht fun b => ?_)
  obtain ⟨cd, hc, hd'⟩ := any_some T.hd
  have hcls : W.Looks (model prog w) hp (classData C) cd := W.looks_clsIn X hc
  obtain ⟨nm, bs, mro, ns, qn, hd, sn, sb, ab, col, del⟩ := cd
  dsimp only at hd'
  subst hd'
  show wpAny _ _ (storeInOwnDict (.ref x) (.ref C) (.str name _) name v b) _ _ _
  unfold storeInOwnDict ownDictForStores
  repeat (first | with_reducible refine PX.store_in_old hns hw hz ?_ | with_reducible refine wpAny_loadPart_at hx ?_ | with_reducible refine hcls.at ?_ | wp_step)
  intro h' tk' hn' hs
  exact hq h' tk' (fun b o hb ho => (hs.2 b hb).trans ho) hn'
end
end Mx

/-! Mini XB: the walk of such an __init__. -/
namespace Mx
open PySem PySem.W PySem.Calls PyProof.Rows PySem.Spec PyProof.V
/-- what the written part says of the __init__ -/
structure ExI (prog : Program) (K : Frag) (C fI : Addr) (qual : Str) (params : Arguments) (body : List Stmt) (scope : Scope) (dV kV doc pm : Value) (an : Option Addr) (cda : Addr) (ct : Value) (cc : Addr) : Prop where
  fn : ∃ oc od osl, K.lookup fI = some ⟨oc, od, .func (ksFn "__init__" qual params body scope dV kV doc pm an (.ref cda) ct cc), osl⟩
  cd : codeIn K (.ref cda) qual = true
  code : ∃ ccl cdd vs ccs file tf, K.lookup cda = some ⟨ccl, cdd, .fields vs, ccs⟩ ∧ vs[2]? = some (.str file tf) ∧ ((prog.main.file : Str) == file) = true
  cell : ∃ cl cld csl, K.lookup cc = some ⟨cl, cld, .cell (some (.ref C)), csl⟩
/-- the module's names that it reads -/
structure ExG (prog : Program) (h : Heap) : Prop where
  glob : ∃ mg, h.Ns mainGlobals mg ∧ mg "super" = none
  blt : ∃ mb, h.Ns builtinsNs mb ∧ mb "super" = some (.type "super")
  lim : h.NoLimit
  top : (prog.main.scope.names.lookup ("super" : Str)).isSome = false
section
variable {prog : Program} {w : World} {A : Around} {E : Value → Shared → Prop} {K : Frag} {C fI e t0 cda cc L : Addr} {B newId initId : String} {bmB : List Value} {hp : Heap} {g : Array GenState} {d : Drawn} {t : Nat} {os : OsState} {qual : Str} {params : Arguments} {body rest : List Stmt} {scope : Scope}
  {dV kV doc pm ct : Value} {an : Option Addr}
/-- super().__init__(text) -/
theorem sup_run {Q : Flow → Shared → Prop} {s : Shared} {m : Str → Option Value} {txt : Str} {j : Nat} {p0 p1 p2 p3 p4 p5 : Pos} {ar : Arg} (BK : BaseK B newId initId bmB) (T : ExK K C fI B newId initId bmB) (I : ExI prog K C fI qual params body scope dV kV doc pm an cda ct cc) (G : ExG prog s.heap) (X : K.In s.heap)
    (hns : s.heap.Ns L m) (hv : m "self" = some (.ref e)) (he : s.heap.get? e = some (excObj C t0 none .none)) (hpar : (params.posonlyargs ++ params.args).head? = some ar) (har : ar.arg = "self")
    (hks : scope.names.lookup ("super" : Str) = some .globalImplicit) (hkc : scope.names.lookup ("__class__" : Str) = some .free) (hka : scope.names.lookup ("self" : Str) = some .local) (hk : scope.kind = .function) (hpl : (p2.endLine == p4.line) = true)
    (h : ∀ h' tk' t1, (∀ b o, b ≠ e → s.heap.get? b = some o → h'.get? b = some o) → h'.get? e = some (excObj C t1 none .none) → Q .next { s with heap := h', toks := tk' }) :
    PySem.wpAt (model prog w) A (.func body (ksEnv qual scope L fI (.ref cda) cc)) (exec (.Expr (.Call (.Attribute (.Call (.Name "super" p0) [] [] p1) "__init__" p2) [.Constant (.str txt) j p3] [] p4) p5) (ksEnv qual scope L fI (.ref cda) cc)) Q E s := by
  obtain ⟨oc, od, osl, hf⟩ := I.fn
  obtain ⟨ccl, cdd, vs, ccs, file, tf, hcode, hvs, hfile⟩ := I.code
  obtain ⟨cl, cld, csl, hcell⟩ := I.cell
  obtain ⟨mg, hg, hgn⟩ := G.glob
  obtain ⟨mb, hb, hbn⟩ := G.blt
  obtain ⟨cd, hcd⟩ : ∃ cd, clsIn K C = some cd := by
    obtain ⟨cd, hc, _⟩ := any_some T.hd
    exact ⟨cd, hc⟩
  obtain ⟨hh, gn, dr, tk, os⟩ := s
  obtain ⟨oD, hD1, hD2⟩ : ∃ oD, hh.get? C = some oD ∧ oD.data = .cls cd := by
    unfold clsIn at hcd
    split at hcd
    · rename_i c d cd' sl ho
      cases hcd
      exact ⟨_, X _ _ ho, rfl⟩
    · cases hcd
  have hne : e ≠ C := ks_ne X (⟨he, rfl, rfl, trivial⟩ : InstAt hh e (excObj C t0 none .none) C none) hcd
  have he' : eval (.Call (.Attribute (.Call (.Name "super" p0) [] [] p1) "__init__" p2) [.Constant (.str txt) j p3] [] p4) (ksEnv qual scope L fI (.ref cda) cc) = (do
      let ov ← attributeBase (.Call (.Name "super" p0) [] [] p1) "__init__" (ksEnv qual scope L fI (.ref cda) cc) (eval (.Call (.Name "super" p0) [] [] p1) (ksEnv qual scope L fI (.ref cda) cc))
      standAt p2.atName
      let (f, first) ← holding [ov] (getMethod ov "__init__" (do return (← importBound (.Call (.Name "super" p0) [] [] p1) (ksEnv qual scope L fI (.ref cda) cc)).getD true))
      callWith p4 f first (backTo p4 (starEach [.Constant (.str txt) j p3] (ksEnv qual scope L fI (.ref cda) cc))) []) := by
    show (do
      let ov ← attributeBase (.Call (.Name "super" p0) [] [] p1) "__init__" (ksEnv qual scope L fI (.ref cda) cc) (eval (.Call (.Name "super" p0) [] [] p1) (ksEnv qual scope L fI (.ref cda) cc))
      standAt p2.atName
      methodCall (.Call (.Name "super" p0) [] [] p1) "__init__" p2 p4 (ksEnv qual scope L fI (.ref cda) cc) ov 1 (backTo p4 (starEach [.Constant (.str txt) j p3] (ksEnv qual scope L fI (.ref cda) cc))) []) = _
    unfold methodCall methodCallPos
    rw [if_pos (by rw [hpl, Bool.or_true])]
    rfl
  refine ks_wpAt_Expr_any (ks_wpAt_MethodCall (ks_wpAt_super_base (env := ksEnv qual scope L fI (.ref cda) cc) hks hkc (attr := "__init__") (by decide) rfl (X _ _ hf) rfl hpar rfl (X _ _ hcode) rfl hvs hfile G.top ?_) he') (by show (scope.kind == .module && _) = false; rw [hk]; rfl)
  refine ks_loadName_global hk hks (loadGlobal_builtin (env := ksEnv qual scope L fI (.ref cda) cc) hg hgn hb hbn ⟨rfl, ?_⟩)
  refine wpAny_loadName_free hk hkc rfl ⟨_, X _ _ hcell, rfl⟩ ?_
  rw [har]
  refine wpAny_loadName_local hk hka hns hv ?_
  refine ks_wpAny_isType_cls hD1 hD2 ⟨rfl, ?_⟩
  refine ks_wpAny_call_super hD1 hD2 he rfl (fun c z => nomatch z) (looks_mroIn X T.hC) (fun h' hso k => ?_)
  have X' : K.In h' := X.keeps k
  have hsup := T.sup
  unfold ks_superIn at hsup
  rw [hcd] at hsup
  have Ie : InstAt h' e (excObj C t0 none .none) C none := ⟨k _ _ he, rfl, rfl, trivial⟩
  refine kxs_getMethod BK.KF hso (looks_opaque X' T.nos) (l₀ := cd.mro) (fun A Q E s k' q => wpAny_bind ((looks_clsIn X' hcd) A _ E s k' (wpAny_pure q))) rfl X' hsup (Ie.type.andThen (looks_subIn X' T.hB)) hne (by decide) ?_
  show wpAny _ _ (callWith _ (.ref h'.objs.size) [] (backTo _ (starEach [.Constant (.str txt) j p3] _)) []) _ _ _
  have hu : (h'.push (kxs_mw initId e)).get? h'.objs.size = some (kxs_mw initId e) := Heap.get?_push_at rfl rfl
  have k2 : ∀ b o, h'.get? b = some o → (h'.push (kxs_mw initId e)).get? b = some o := fun b o z => Heap.get?_push_of_some _ z
  refine kxs_callWith (i := initId) (x := e) (by rfl) (evalArgs_plain (spliced_cons (wpAny_Constant_str (k := j) (pos := p3) (spliced_nil ⟨hu, ?_⟩))))
  have X2 : K.In (h'.push (kxs_mw initId e)) := X'.keeps k2
  obtain ⟨nm, N', qn, bs, bm, hdct, sn, sub, ab, col, dd, k0, k1, k2', k3, k5, hC, hT⟩ := excInit_of X2 T.q
  have he2 := k2 _ _ (k _ _ he)
  refine wpAny_call (codeAny_of_tree ?_)
  show wpAny _ _ (callAny (.ref h'.objs.size) ⟨_, []⟩) _ _ _
  simp only [callAny]
  refine wpAny_bind (wpAny_load hu ?_)
  simp only [kxs_mw, show (Value.type "method-wrapper" == Value.type "method" || Value.type "method-wrapper" == Value.type "builtin_function_or_method" || Value.type "method-wrapper" == Value.type "method-wrapper") = true by decide, if_true]
  refine KFB.if_so (by decide) ?_
  refine wpAny_bind (check_bound_init BK.FB.toExcCallFacts hC he2 rfl ?_)
  refine wpAny_bind (wpAny_pure (wpAny_pure ?_))
  refine ⟨plainId_quiet BK.FB.init.plain _, codeAny_builtin BK.FB.initEntry ?_⟩
  refine exc_init_tree (cls := .ref C) (t0 := t0) (dv := none) (c2 := .none) (c3 := .none) (b4 := .bool false) he2 (by show 1 ≤ sizeLine; rw [sizeLine_eq]; omega) fun h3 k3 e3 _ => ?_
  exact h h3 _ _ (fun b o hb ho => k3 b o hb (k2 _ _ (k b o ho))) e3

theorem ns_at {h h' : Heap} {L : Addr} {m : Str → Option Value} (n : h.Ns L m) (k : ∀ o, h.get? L = some o → h'.get? L = some o) : h'.Ns L m := by
  obtain ⟨o, a1, a2, hL, r⟩ := n
  exact ⟨o, a1, a2, k _ hL, r⟩
/-- self.f = e, the first field, the second -/
theorem fld_new {Q : Flow → Shared → Prop} {s : Shared} {m : Str → Option Value} {f : Str} {v : Value} {ex : Expr} {p6 p7 p9 : Pos} (BK : BaseK B newId initId bmB) (T : ExK K C fI B newId initId bmB) (X : K.In s.heap)
    (hns : s.heap.Ns L m) (hv : m "self" = some (.ref e)) (he : s.heap.get? e = some (excObj C t0 none .none)) (heL : e ≠ L) (ht : takerIn K C f = some none)
    (hka : scope.names.lookup ("self" : Str) = some .local) (hk : scope.kind = .function)
    (hex : ∀ {Q : Value → Shared → Prop}, (∀ u tk, u = v ∨ (∃ z t1 t2, u = .str z t1 ∧ v = .str z t2) → Q u { s with toks := tk }) → wpAny (model prog w) A (eval ex (ksEnv qual scope L fI (.ref cda) cc)) Q E s)
    (hs : swapsWith ex (some (.Attribute (.Name "self" p6) f p7)) p9.line (ksEnv qual scope L fI (.ref cda) cc) = pure false)
    (h : ∀ h' tk' dx u, (u = v ∨ (∃ z t1 t2, u = .str z t1 ∧ v = .str z t2)) → (∀ b o, b ≠ e → s.heap.get? b = some o → h'.get? b = some o) → s.heap.objs.size ≤ dx → dx ≠ e → h'.get? e = some (excObj C t0 (some dx) .none) → h'.Ns1 dx (fun y => if y = f then some u else none) → Q .next { s with heap := h', toks := tk' }) :
    wpAny (model prog w) A (exec (.Assign [.Attribute (.Name "self" p6) f p7] ex p9) (ksEnv qual scope L fI (.ref cda) cc)) Q E s := by
  refine plainObj_wpAny_Assign_Attribute (hex fun u tk hu => ?_) hs
  refine wpAny_Name (wpAny_loadName_local hk hka (s := { s with toks := tk }) hns hv ?_) (by decide)
  obtain ⟨hh, gn, dr, tk0, os⟩ := s
  exact set_new BK T X he ht fun h' tk' dx k l n e1 n1 => h h' tk' dx u hu k l n e1 n1
theorem fld_old {Q : Flow → Shared → Prop} {s : Shared} {m : Str → Option Value} {f : Str} {v : Value} {ex : Expr} {p6 p7 p9 : Pos} {dx : Addr} {m0 : Str → Option Value} {nl : List Str} (BK : BaseK B newId initId bmB) (T : ExK K C fI B newId initId bmB) (X : K.In s.heap)
    (hns : s.heap.Ns L m) (hv : m "self" = some (.ref e)) (he : s.heap.get? e = some (excObj C t0 (some dx) .none)) (hd : s.heap.Ns1 dx m0) (hw : Within m0 nl) (hz : nl.length ≤ 1000) (ht : takerIn K C f = some none)
    (hka : scope.names.lookup ("self" : Str) = some .local) (hk : scope.kind = .function)
    (hex : ∀ {Q : Value → Shared → Prop}, (∀ u tk, u = v ∨ (∃ z t1 t2, u = .str z t1 ∧ v = .str z t2) → Q u { s with toks := tk }) → wpAny (model prog w) A (eval ex (ksEnv qual scope L fI (.ref cda) cc)) Q E s)
    (hs : swapsWith ex (some (.Attribute (.Name "self" p6) f p7)) p9.line (ksEnv qual scope L fI (.ref cda) cc) = pure false)
    (h : ∀ h' tk' u, (u = v ∨ (∃ z t1 t2, u = .str z t1 ∧ v = .str z t2)) → (∀ b o, b ≠ dx → s.heap.get? b = some o → h'.get? b = some o) → h'.Ns1 dx (fun y => if y = f then some u else m0 y) → Q .next { s with heap := h', toks := tk' }) :
    wpAny (model prog w) A (exec (.Assign [.Attribute (.Name "self" p6) f p7] ex p9) (ksEnv qual scope L fI (.ref cda) cc)) Q E s := by
  refine plainObj_wpAny_Assign_Attribute (hex fun u tk hu => ?_) hs
  refine wpAny_Name (wpAny_loadName_local hk hka (s := { s with toks := tk }) hns hv ?_) (by decide)
  obtain ⟨hh, gn, dr, tk0, os⟩ := s
  exact set_old BK T X he hd hw hz ht fun h' tk' k n1 => h h' tk' u hu k n1
theorem lk_ne {α : Type} {a y : Str} {b : α} {l : List (Str × α)} (h : y ≠ a) : ((a, b) :: l).lookup y = l.lookup y := by
  have e : (y == a) = false := by simpa using h
  simp [List.lookup, e]
theorem lk_eq {α : Type} {a : Str} {b : α} {l : List (Str × α)} : ((a, b) :: l).lookup a = some b := by simp [List.lookup]
/-- what the making leaves -/
structure Made (hp h' : Heap) (e C dx : Addr) (fs : List (Str × Value)) : Prop where
  keep : ∀ b o, b ≠ e → hp.get? b = some o → h'.get? b = some o
  new : hp.objs.size ≤ dx
  exc : ∃ t1, h'.get? e = some (excObj C t1 (some dx) .none)
  dct : ∃ m, h'.Ns1 dx m ∧ ∀ y, (fs.lookup y = none ∧ m y = none) ∨ ∃ u v, fs.lookup y = some u ∧ m y = some v ∧ (v = u ∨ ∃ z t1 t2, u = .str z t1 ∧ v = .str z t2)
/-- the walk of super().__init__(text); self.code = text -/
theorem init0 {R : Result → Shared → Prop} {ar : Arg} {txt code : Str} {j j2 : Nat} {p0 p1 p2 p3 p4 p5 p10 p11 p12 p13 : Pos} (BK : BaseK B newId initId bmB) (T : ExK K C fI B newId initId bmB)
    (hbody : body = [.Expr (.Call (.Attribute (.Call (.Name "super" p0) [] [] p1) "__init__" p2) [.Constant (.str txt) j p3] [] p4) p5, .Assign [.Attribute (.Name "self" p10) "code" p11] (.Constant (.str code) j2 p12) p13])
    (I : ExI prog K C fI qual params body scope dV kV doc pm an cda ct cc) (G : ExG prog hp) (X : K.In hp) (he : hp.get? e = some (excObj C t0 none .none)) (ne : K.lookup e = none) (hroom : A.depth < recursionLimit)
    (hbind : BindsTo ⟨hp, g, d, t, os⟩ (ksFn "__init__" qual params body scope dV kV doc pm an (.ref cda) ct cc) ⟨[.ref e], []⟩ [("self", .ref e)])
    (hpar : (params.posonlyargs ++ params.args).head? = some ar) (har : ar.arg = "self")
    (hks : scope.names.lookup ("super" : Str) = some .globalImplicit) (hkc : scope.names.lookup ("__class__" : Str) = some .free) (hka : scope.names.lookup ("self" : Str) = some .local) (hk : scope.kind = .function) (hpl : (p2.endLine == p4.line) = true)
    (hcl : ∀ x ∈ scope.names, x.2 ≠ .cell) (hco : scope.isCoroutine = false) (hgen : scope.isGenerator = false) (ht : takerIn K C "code" = some none)
    (hq : ∀ h' tk' dx tc, Made hp h' e C dx [("code", .str code tc)] → R (.ok (.ret .none)) ⟨h', g, d, tk', os⟩) :
    codeAny (model prog w) A (.call (.ref fI) ⟨[.ref e], []⟩) R ⟨hp, g, d, t, os⟩ := by
  obtain ⟨oc, od, osl, lk⟩ := I.fn
  have hcd := I.cd
  refine ks_codeAny_call_defAt (fd := ksFn "__init__" qual params body scope dV kV doc pm an (.ref cda) ct cc) (body := body) hroom (X _ _ lk) rfl G.lim (codeRec_of X hcd) rfl hbind hcl (fun y hy => ?_) (fun h₁ hns k1 => ?_) hco hgen hk
  · simp only [List.mem_cons, List.not_mem_nil, or_false] at hy
    subst hy
    exact hka
  show PySem.wpAt _ _ (.func body (ksEnv qual scope hp.objs.size fI (.ref cda) cc)) (execs body (ksEnv qual scope hp.objs.size fI (.ref cda) cc)) _ _ _
  have hlt : e < hp.objs.size := Heap.lt_size he
  have heL : e ≠ hp.objs.size := Nat.ne_of_lt hlt
  have X1 : K.In h₁ := X.keeps k1
  have G1 : ExG prog h₁ := ⟨let ⟨mg, a, b⟩ := G.glob; ⟨mg, a.keeps k1, b⟩, let ⟨mg, a, b⟩ := G.blt; ⟨mg, a.keeps k1, b⟩, G.lim.keeps k1, G.top⟩
  have hbody' := hbody
  generalize body = bd at I hbody ⊢
  subst hbody
  refine ks_wpAt_execs_cons (sup_run (t0 := t0) (s := ⟨h₁, g, d, _, os⟩) BK T I G1 X1 hns rfl (k1 _ _ he) hpar har hks hkc hka hk hpl fun h2 tk2 t1 k2 e2 => ?_)
  have X2 : K.In h2 := fun b o q => k2 b o (fun z => by rw [z, ne] at q; cases q) (X1 b o q)
  have s1 : hp.objs.size < h₁.objs.size := hns.lt
  have kL := fun o q => k2 hp.objs.size o (Ne.symm heL) q
  have n2 := ns_at hns kL
  obtain ⟨oL, _, _, hL2, _⟩ := id n2
  have s2 : hp.objs.size < h2.objs.size := Heap.lt_size hL2
  refine ks_wpAt_execs_cons (wpAt_of_wpAny (fld_new (s := ⟨h2, g, d, _, os⟩) (v := .str code 0) BK T X2 n2 rfl e2 heL ht hka hk (fun {Q} q => wpAny_Constant_str (k := j2) (pos := p12) (q _ _ (.inr ⟨code, _, _, rfl, rfl⟩))) (by rfl) fun h3 tk3 dx u hu k3 l3 n3 e3 d3 => ?_))
  refine wpAt_of_wpAny (wpAny_execs_nil (hq h3 _ dx 0 ⟨fun b o hb q => k3 b o hb (k2 b o hb (k1 b o q)), Nat.le_of_lt (Nat.lt_of_lt_of_le s2 l3), ⟨_, e3⟩, ⟨_, d3, fun y => ?_⟩⟩))
  by_cases hy : y = "code"
  · subst hy
    exact .inr ⟨_, u, rfl, if_pos rfl, hu.elim (fun z => .inl z) fun ⟨z, a, b, q1, q2⟩ => .inr ⟨z, b, a, q2, q1⟩⟩
  · exact .inl ⟨(lk_ne hy).trans rfl, if_neg hy⟩

/-- the walk of super().__init__(text); self.f = f; self.code = text -/
theorem init1 {R : Result → Shared → Prop} {ar : Arg} {f txt code : Str} {v : Value} {j j2 : Nat} {p0 p1 p2 p3 p4 p5 p6 p7 p8 p9 p10 p11 p12 p13 : Pos} (BK : BaseK B newId initId bmB) (T : ExK K C fI B newId initId bmB)
    (hbody : body = [.Expr (.Call (.Attribute (.Call (.Name "super" p0) [] [] p1) "__init__" p2) [.Constant (.str txt) j p3] [] p4) p5, .Assign [.Attribute (.Name "self" p6) f p7] (.Name f p8) p9, .Assign [.Attribute (.Name "self" p10) "code" p11] (.Constant (.str code) j2 p12) p13])
    (I : ExI prog K C fI qual params body scope dV kV doc pm an cda ct cc) (G : ExG prog hp) (X : K.In hp) (he : hp.get? e = some (excObj C t0 none .none)) (ne : K.lookup e = none) (hroom : A.depth < recursionLimit)
    (hbind : BindsTo ⟨hp, g, d, t, os⟩ (ksFn "__init__" qual params body scope dV kV doc pm an (.ref cda) ct cc) ⟨[.ref e, v], []⟩ [("self", .ref e), (f, v)])
    (hpar : (params.posonlyargs ++ params.args).head? = some ar) (har : ar.arg = "self")
    (hks : scope.names.lookup ("super" : Str) = some .globalImplicit) (hkc : scope.names.lookup ("__class__" : Str) = some .free) (hka : scope.names.lookup ("self" : Str) = some .local) (hkf : scope.names.lookup f = some .local) (hk : scope.kind = .function) (hpl : (p2.endLine == p4.line) = true)
    (hcl : ∀ x ∈ scope.names, x.2 ≠ .cell) (hco : scope.isCoroutine = false) (hgen : scope.isGenerator = false) (ht : takerIn K C "code" = some none) (htf : takerIn K C f = some none) (hfs : f ≠ "self") (hfc : f ≠ "code") (hfd : (f == ("__debug__" : Str)) = false)
    (hq : ∀ h' tk' dx tc, Made hp h' e C dx [("code", .str code tc), (f, v)] → R (.ok (.ret .none)) ⟨h', g, d, tk', os⟩) :
    codeAny (model prog w) A (.call (.ref fI) ⟨[.ref e, v], []⟩) R ⟨hp, g, d, t, os⟩ := by
  obtain ⟨oc, od, osl, lk⟩ := I.fn
  have hcd := I.cd
  refine ks_codeAny_call_defAt (fd := ksFn "__init__" qual params body scope dV kV doc pm an (.ref cda) ct cc) (body := body) hroom (X _ _ lk) rfl G.lim (codeRec_of X hcd) rfl hbind hcl (fun y hy => ?_) (fun h₁ hns k1 => ?_) hco hgen hk
  · simp only [List.mem_cons, List.not_mem_nil, or_false] at hy
    rcases hy with rfl | rfl
    · exact hka
    · exact hkf
  show PySem.wpAt _ _ (.func body (ksEnv qual scope hp.objs.size fI (.ref cda) cc)) (execs body (ksEnv qual scope hp.objs.size fI (.ref cda) cc)) _ _ _
  have hlt : e < hp.objs.size := Heap.lt_size he
  have heL : e ≠ hp.objs.size := Nat.ne_of_lt hlt
  have X1 : K.In h₁ := X.keeps k1
  have G1 : ExG prog h₁ := ⟨let ⟨mg, a, b⟩ := G.glob; ⟨mg, a.keeps k1, b⟩, let ⟨mg, a, b⟩ := G.blt; ⟨mg, a.keeps k1, b⟩, G.lim.keeps k1, G.top⟩
  have mself : (fun x => List.lookup x [(("self" : Str), Value.ref e), (f, v)].reverse) ("self" : Str) = some (.ref e) := by
    exact (lk_ne (Ne.symm hfs)).trans lk_eq
  have mf : (fun x => List.lookup x [(("self" : Str), Value.ref e), (f, v)].reverse) f = some v := lk_eq
  have hbody' := hbody
  generalize body = bd at I hbody ⊢
  subst hbody
  refine ks_wpAt_execs_cons (sup_run (t0 := t0) (s := ⟨h₁, g, d, _, os⟩) BK T I G1 X1 hns mself (k1 _ _ he) hpar har hks hkc hka hk hpl fun h2 tk2 t1 k2 e2 => ?_)
  have X2 : K.In h2 := fun b o q => k2 b o (fun z => by rw [z, ne] at q; cases q) (X1 b o q)
  have s1 : hp.objs.size < h₁.objs.size := hns.lt
  have kL := fun o q => k2 hp.objs.size o (Ne.symm heL) q
  have n2 := ns_at hns kL
  obtain ⟨oL, _, _, hL2, _⟩ := id n2
  have s2 : hp.objs.size < h2.objs.size := Heap.lt_size hL2
  refine ks_wpAt_execs_cons (wpAt_of_wpAny (fld_new (s := ⟨h2, g, d, _, os⟩) (v := v) BK T X2 n2 mself e2 heL htf hka hk (fun {Q} q => wpAny_Name (wpAny_loadName_local hk hkf (s := ⟨h2, g, d, _, os⟩) n2 mf (q _ _ (.inl rfl))) hfd) (by rfl) fun h3 tk3 dx u hu k3 l3 nd3 e3 d3 => ?_))
  have X3 : K.In h3 := fun b o q => k3 b o (fun z => by rw [z, ne] at q; cases q) (X2 b o q)
  have n3 := ns_at n2 fun o q => k3 hp.objs.size o (Ne.symm heL) q
  have w3 : Within (fun y => if y = f then some u else none) [f] := Within.cons f u Within.nil
  refine ks_wpAt_execs_cons (wpAt_of_wpAny (fld_old (s := ⟨h3, g, d, _, os⟩) (v := .str code 0) BK T X3 n3 mself e3 d3 w3 (by simp) ht hka hk (fun {Q} q => wpAny_Constant_str (k := j2) (pos := p12) (q _ _ (.inr ⟨code, _, _, rfl, rfl⟩))) (by rfl) fun h4 tk4 u2 hu2 k4 d4 => ?_))
  have l2 : hp.objs.size < dx := Nat.lt_of_lt_of_le s2 l3
  refine wpAt_of_wpAny (wpAny_execs_nil (hq h4 _ dx 0 ⟨fun b o hb q => k4 b o (fun z => ?_) (k3 b o hb (k2 b o hb (k1 b o q))), Nat.le_of_lt l2, ⟨_, k4 _ _ (Ne.symm nd3) e3⟩, ⟨_, d4, fun y => ?_⟩⟩))
  · have y := Heap.lt_size q
    rw [z] at y
    exact absurd (Nat.lt_trans y l2) (Nat.lt_irrefl _)
  by_cases hy : y = "code"
  · subst hy
    exact .inr ⟨_, u2, rfl, if_pos rfl, hu2.elim (fun z => .inl z) fun ⟨z, a, b, q1, q2⟩ => .inr ⟨z, b, a, q2, q1⟩⟩
  · by_cases hy2 : y = f
    · subst hy2
      refine .inr ⟨v, u, (lk_ne hy).trans lk_eq, ?_, hu.elim (fun z => .inl z) fun ⟨z, a, b, q1, q2⟩ => .inr ⟨z, b, a, q2, q1⟩⟩
      rw [if_neg hy, if_pos rfl]
    · exact .inl ⟨(lk_ne hy).trans ((lk_ne hy2).trans rfl), by rw [if_neg hy, if_neg hy2]⟩
end
end Mx

/-! Mini XC: own exceptions made, by facts of the head; raise. -/
namespace Mx
open PySem PySem.W PySem.Calls PyProof.Rows PySem.Spec PyProof.V
inductive EB where
  | ve | le | ie
def EB.nm : EB → String
  | .ve => "ValueError"
  | .le => "LookupError"
  | .ie => "IndexError"
def EB.nw : EB → String
  | .ve => "ValueError.__new__"
  | .le => "LookupError.__new__"
  | .ie => "IndexError.__new__"
def EB.it : EB → String
  | .ve => "ValueError.__init__"
  | .le => "LookupError.__init__"
  | .ie => "IndexError.__init__"
def EB.bm : EB → List Value
  | .ve => bmVE
  | .le => bmLE
  | .ie => bmIE
theorem EB.base : ∀ b : EB, BaseK b.nm b.nw b.it b.bm
  | .ve => bVE
  | .le => bLE
  | .ie => bIE
/-- what an own exception's class wants of the written part, read off it -/
def exB (b : EB) (c : Str) (fs : List Str) (file : Str) (K : Frag) : Bool :=
  (excInitIn K (He.ga K c) b.bm b.nw && (excOver K (He.ga K c) b.bm && (He.eqO (findIn K (.ref (He.ga K c)) "__init__") (some (some (.ref (He.ma K (He.ga K c) "__init__")))) && isFn K (.ref (He.ma K (He.ga K c) "__init__"))))) &&
  ((He.eqO (findIn K (.ref (He.ga K c)) "__setattr__") (some (some (.builtin "object.__setattr__"))) && (hasDictIn K (He.ga K c) && (He.eqO (ks_superIn K (He.ga K c) (He.ga K c) "__init__") (some (some (.builtin b.it))) && decide (subIn K (.ref (He.ga K c)) (.type b.nm) = some true)))) &&
  ((decide (mroIn K (He.ga K c) (.ref (He.ga K c)) = some true) && (He.eqO (nsIn K cStatics "thirdparty.any") (some none) && (decide (subIn K (.ref (He.ga K c)) (.type "BaseException") = some true) && decide (typeIn K (.ref (He.ga K c)) = some (.type "type"))))) &&
  ((keepIn K (.ref (He.ga K c)) && (L2.xfB K (He.ga K c) && fs.all fun f => He.eqO (findIn K (.ref (He.ga K c)) f) (some none))) &&
  (match K.lookup (He.ma K (He.ga K c) "__init__") with
    | some ⟨_, _, .func fd, _⟩ => (match fd.code with
      | .ref cda => (match K.lookup cda with
        | some ⟨_, _, .fields vs, _⟩ => (match (vs[2]? : Option Value) with
          | some (Value.str fl _) => file == fl
          | _ => false)
        | _ => false)
      | _ => false) && (match fd.closure with
      | [(_, cc)] => (match K.lookup cc with
        | some ⟨_, _, .cell (some (.ref D)), _⟩ => decide (D = He.ga K c)
        | _ => false)
      | _ => false)
    | _ => false))))
theorem exB_ok {b : EB} {c : Str} {fs : List Str} {file : Str} {K : Frag} (h : exB b c fs file K = true) :
    ExK K (He.ga K c) (He.ma K (He.ga K c) "__init__") b.nm b.nw b.it b.bm ∧ (L2.XfC K (He.ga K c) ∧ ∀ f ∈ fs, findIn K (.ref (He.ga K c)) f = some none) ∧
    ∃ oc od fd osl cda cc x ccl cdd vs ccs fl tf cl cld csl, K.lookup (He.ma K (He.ga K c) "__init__") = some ⟨oc, od, .func fd, osl⟩ ∧ fd.code = .ref cda ∧ fd.closure = [(x, cc)] ∧ K.lookup cda = some ⟨ccl, cdd, .fields vs, ccs⟩ ∧ vs[2]? = some (.str fl tf) ∧ (file == fl) = true ∧
      K.lookup cc = some ⟨cl, cld, .cell (some (.ref (He.ga K c))), csl⟩ := by
  unfold exB at h
  simp only [Bool.and_eq_true, decide_eq_true_eq] at h
  obtain ⟨⟨h1, h2, h3, h4⟩, ⟨h5, h6, h7, h8⟩, ⟨h9, h10, h11, h12⟩, ⟨h13, hxf, h14⟩, h15⟩ := h
  refine ⟨⟨h1, h2, He.eqO_ok h3, h4, He.eqO_ok h5, h6, He.eqO_ok h7, h8, h9, He.eqO_ok h10, h11, h12, h13⟩, ⟨L2.xfB_ok hxf, fun f hf => He.eqO_ok (List.all_eq_true.mp h14 f hf)⟩, ?_⟩
  · split at h15
    · rename_i oc od fd osl e0
      obtain ⟨ha, hb⟩ := Bool.and_eq_true_iff.mp h15
      split at ha
      · rename_i cda e1
        split at ha
        · rename_i ccl cdd vs ccs e2
          split at ha
          · rename_i fl tf e3
            split at hb
            · rename_i x cc e4
              split at hb
              · rename_i cl cld D csl e5
                have hD := of_decide_eq_true hb
                subst hD
                exact ⟨oc, od, fd, osl, cda, cc, x, ccl, cdd, vs, ccs, fl, tf, cl, cld, csl, e0, e1, e4, e2, e3, ha, e5⟩
              · cases hb
            · cases hb
          · cases ha
        · cases ha
      · cases ha
    · cases h15
theorem taker_of {K : Frag} {C : Addr} {f : Str} (h : findIn K (.ref C) f = some none) : takerIn K C f = some none := by
  unfold takerIn
  rw [h] <;> rfl
/-- C(..) makes an exception whose dict holds its code and its field -/
structure ExcF (prog : Program) (K : Frag) (mg : Str → Option Value) (c : Str) (C : Addr) (fo : Option Str) : Prop where
  mg : mg c = some (.ref C)
  exB : subIn K (.ref C) (.type "BaseException") = some true
  ty : typeIn K (.ref C) = some (.type "type")
  kC : keepIn K (.ref C) = true
  xf : L2.XfC K C
  nf : ∀ f ∈ ("code" : Str) :: fo.toList, findIn K (.ref C) f = some none
  call : ∀ (w : World) (A : Around) (E : Value → Shared → Prop) (Q : Value → Shared → Prop) (hp : Heap) (g : Array GenState) (d : Drawn) (t : Nat) (os : OsState) (us : List Value), us.length = fo.toList.length → K.In hp → ExG prog hp → (A.under (.builtin "type.__call__" ⟨.ref C :: us, []⟩)).depth < recursionLimit →
    (∀ h' tk' e dx tc, hp.get? e = none → hp.get? dx = none → dx ≠ e → (∀ b o, hp.get? b = some o → h'.get? b = some o) → (∃ t1, h'.get? e = some (excObj C t1 (some dx) .none)) →
      (∃ m, h'.Ns1 dx m ∧ ∀ y, (((("code" : Str), Value.str c tc) :: fo.toList.zip us).lookup y = none ∧ m y = none) ∨ ∃ u v, ((("code" : Str), Value.str c tc) :: fo.toList.zip us).lookup y = some u ∧ m y = some v ∧ (v = u ∨ ∃ z t1 t2, u = .str z t1 ∧ v = .str z t2)) → Q (.ref e) ⟨h', g, d, tk', os⟩) →
    wpAny (model prog w) A (PySem.call (.ref C) us) Q E ⟨hp, g, d, t, os⟩
section
variable {prog : Program} {K : Frag} {mg : Str → Option Value} {c f : Str} {d : Mi.DefU}
theorem call_mk {w : World} {A : Around} {E : Value → Shared → Prop} {Q : Value → Shared → Prop} {hp : Heap} {g : Array GenState} {dr : Drawn} {t : Nat} {os : OsState} {us : List Value} {C fI : Addr} {b : EB} (T : ExK K C fI b.nm b.nw b.it b.bm) (X : K.In hp) (hus : us.length ≤ sizeLine)
    (h : codeAny (model prog w) (A.under (.builtin "type.__call__" ⟨.ref C :: us, []⟩)) (.call (.ref fI) ⟨.ref (hp.objs.size + 1) :: us, []⟩) (InitBack (hp.objs.size + 1) fun r s' => match r with | .ok (.ret v) => Q v s' | .ok _ => False | .error x => E x s') ⟨(hp.push (kdv_tup us)).push (PX.excO C hp.objs.size), g, dr, t, os⟩) :
    wpAny (model prog w) A (PySem.call (.ref C) us) Q E ⟨hp, g, dr, t, os⟩ := by
  obtain ⟨nm, N', qn, bs, bm, hdct, sn, sub, ab, col, dd, k0, k1, k2, k3, k5, hC, hT⟩ := excInit_of X T.q
  obtain ⟨oI, hoI, hcI⟩ : ∃ oI, hp.get? fI = some oI ∧ oI.cls = .type "function" := by
    obtain ⟨o, ho, hc⟩ := Option.map_eq_some_iff.mp (show (K.lookup fI).map (·.cls) = some (.type "function") from beq_iff_eq.mp T.isF)
    exact ⟨o, X _ _ ho, hc⟩
  refine wpAny_call (PX.call_own b.base.FB hT hC (looks_findIn X T.hi) (fun self => exc_bind hoI hcI self) hus (codeAny_mono h fun r s' z => ?_))
  rcases r with x | (v | _ | _ | _) <;> first | exact z | exact z.elim
theorem old_not_new {hp : Heap} {C : Addr} {us : List Value} : ∀ b o, hp.get? b = some o → ((hp.push (kdv_tup us)).push (PX.excO C hp.objs.size)).get? b = some o := fun b o e => Heap.get?_push_of_some _ (Heap.get?_push_of_some _ e)
theorem excF0 (b : EB) (e : Mi.fnV K (d.ad K) = d.val ∧ d.good K = true) (had : d.ad K = He.ma K (He.ga K c) "__init__") (hn : d.name = "__init__") (hcl : d.cl = [("__class__" : Str)]) (hdf : d.dfl = []) (hB : exB b c ["code"] prog.main.file K = true) (hmg : mg c = some (.ref (He.ga K c)))
    {ar : Arg} {txt : Str} {j j2 : Nat} {p0 p1 p2 p3 p4 p5 p10 p11 p12 p13 : Pos}
    (hbody : d.body = [.Expr (.Call (.Attribute (.Call (.Name "super" p0) [] [] p1) "__init__" p2) [.Constant (.str txt) j p3] [] p4) p5, .Assign [.Attribute (.Name "self" p10) "code" p11] (.Constant (.str c) j2 p12) p13])
    (hbind : ∀ (kV doc pm : Value) (an : Option Addr) (cda ct : Value) (cl : List (Str × Addr)) (a : Value), bindArgs (fnX "__init__" d.qual d.params d.body d.scope cl .none kV doc pm an cda ct) ⟨[a], []⟩ = pure [(("self" : Str), a)])
    (hpar : (d.params.posonlyargs ++ d.params.args).head? = some ar) (har : ar.arg = "self")
    (hks : d.scope.names.lookup ("super" : Str) = some .globalImplicit) (hkc : d.scope.names.lookup ("__class__" : Str) = some .free) (hka : d.scope.names.lookup ("self" : Str) = some .local) (hk : d.scope.kind = .function) (hpl : (p2.endLine == p4.line) = true)
    (hce : ∀ x ∈ d.scope.names, x.2 ≠ .cell) (hco : d.scope.isCoroutine = false) (hgen : d.scope.isGenerator = false) : ExcF prog K mg c (He.ga K c) none := by
  obtain ⟨T, ⟨hxf, hnf⟩, oc, od, fd, osl, cda, cc, x, ccl, cdd, vs, ccs, fl, tf, cl, cld, csl, e0, e1, e4, e2, e3, ha, e5⟩ := exB_ok hB
  obtain ⟨oc', od', x7, x8, x9, x10, x11, x12, x13, x14, osl', lk, hx, hcd, hdv⟩ := Mi.DefU.fnC e.1 e.2
  rw [had, e0] at lk
  cases lk
  have e1 : x13 = .ref cda := e1
  have e4 : x7 = [(x, cc)] := e4
  subst e1 e4
  rw [hcl] at hx
  obtain rfl : x = "__class__" := by simpa using hx
  have hd8 : x8 = .none := by
    have z := He.dflB_ok hdv
    unfold Mi.DefU.dvs at z
    rw [hdf] at z
    rcases z with ⟨_, z⟩ | ⟨z, _⟩
    · exact z
    · exact absurd rfl z
  subst hd8
  rw [hn] at e0
  refine ⟨hmg, T.exB, T.ty, T.kC, hxf, fun f hf => hnf f (by simpa using hf), fun w A E Q hp g dr t os us hl X G hroom hq => ?_⟩
  obtain rfl : us = [] := List.eq_nil_of_length_eq_zero hl
  refine call_mk T X (by show 0 ≤ sizeLine; omega) ?_
  have kk := old_not_new (hp := hp) (C := He.ga K c) (us := [])
  have hlt : ∀ {b : Addr} {o : Obj}, hp.get? b = some o → b < hp.objs.size := fun q => Heap.lt_size q
  have hget : ((hp.push (kdv_tup [])).push (PX.excO (He.ga K c) hp.objs.size)).get? (hp.objs.size + 1) = some (PX.excO (He.ga K c) hp.objs.size) := by heap_get
  have hne : K.lookup (hp.objs.size + 1) = none := by
    cases q : K.lookup (hp.objs.size + 1) with
    | none => rfl
    | some o => exact absurd (Nat.lt_trans (Nat.lt_succ_self _) (hlt (X _ _ q))) (Nat.lt_irrefl _)
  refine init0 (t0 := hp.objs.size) (b.base) T hbody ⟨⟨oc, od, osl, e0⟩, hcd, ⟨ccl, cdd, vs, ccs, fl, tf, e2, e3, ha⟩, ⟨cl, cld, csl, e5⟩⟩ ⟨let ⟨m, a, z⟩ := G.glob; ⟨m, a.keeps kk, z⟩, let ⟨m, a, z⟩ := G.blt; ⟨m, a.keeps kk, z⟩, G.lim.keeps kk, G.top⟩ (X.keeps kk) hget hne hroom
    (.of_eq (hbind _ _ _ _ _ _ _ _)) hpar har hks hkc hka hk hpl hce hco hgen (taker_of (hnf _ (by simp))) fun h' tk' dx tc M => ⟨rfl, ?_⟩
  have sz : ((hp.push (kdv_tup [])).push (PX.excO (He.ga K c) hp.objs.size)).objs.size = hp.objs.size + 2 := by rw [Heap.size_push, Heap.size_push]
  have gone : ∀ {a : Addr}, hp.objs.size ≤ a → hp.get? a = none := fun {a} l => by
    cases q : hp.get? a with
    | none => rfl
    | some o => exact absurd (Nat.lt_of_lt_of_le (hlt q) l) (Nat.lt_irrefl _)
  have dl := M.new
  rw [sz] at dl
  exact hq h' tk' (hp.objs.size + 1) dx tc (gone (Nat.le_succ _)) (gone (by omega)) (Nat.ne_of_gt dl) (fun b o q => M.keep b o (Nat.ne_of_lt (Nat.lt_succ_of_lt (hlt q))) (kk b o q)) M.exc M.dct
theorem excF1 (b : EB) (e : Mi.fnV K (d.ad K) = d.val ∧ d.good K = true) (had : d.ad K = He.ma K (He.ga K c) "__init__") (hn : d.name = "__init__") (hcl : d.cl = [("__class__" : Str)]) (hdf : d.dfl = []) (hB : exB b c ["code", f] prog.main.file K = true) (hmg : mg c = some (.ref (He.ga K c)))
    {ar : Arg} {txt : Str} {j j2 : Nat} {p0 p1 p2 p3 p4 p5 p6 p7 p8 p9 p10 p11 p12 p13 : Pos}
    (hbody : d.body = [.Expr (.Call (.Attribute (.Call (.Name "super" p0) [] [] p1) "__init__" p2) [.Constant (.str txt) j p3] [] p4) p5, .Assign [.Attribute (.Name "self" p6) f p7] (.Name f p8) p9, .Assign [.Attribute (.Name "self" p10) "code" p11] (.Constant (.str c) j2 p12) p13])
    (hbind : ∀ (kV doc pm : Value) (an : Option Addr) (cda ct : Value) (cl : List (Str × Addr)) (a v : Value), bindArgs (fnX "__init__" d.qual d.params d.body d.scope cl .none kV doc pm an cda ct) ⟨[a, v], []⟩ = pure [(("self" : Str), a), (f, v)])
    (hpar : (d.params.posonlyargs ++ d.params.args).head? = some ar) (har : ar.arg = "self")
    (hks : d.scope.names.lookup ("super" : Str) = some .globalImplicit) (hkc : d.scope.names.lookup ("__class__" : Str) = some .free) (hka : d.scope.names.lookup ("self" : Str) = some .local) (hkf : d.scope.names.lookup f = some .local) (hk : d.scope.kind = .function) (hpl : (p2.endLine == p4.line) = true)
    (hce : ∀ x ∈ d.scope.names, x.2 ≠ .cell) (hco : d.scope.isCoroutine = false) (hgen : d.scope.isGenerator = false) (hfs : f ≠ "self") (hfc : f ≠ "code") (hfd : (f == ("__debug__" : Str)) = false) : ExcF prog K mg c (He.ga K c) (some f) := by
  obtain ⟨T, ⟨hxf, hnf⟩, oc, od, fd, osl, cda, cc, x, ccl, cdd, vs, ccs, fl, tf, cl, cld, csl, e0, e1, e4, e2, e3, ha, e5⟩ := exB_ok hB
  obtain ⟨oc', od', x7, x8, x9, x10, x11, x12, x13, x14, osl', lk, hx, hcd, hdv⟩ := Mi.DefU.fnC e.1 e.2
  rw [had, e0] at lk
  cases lk
  have e1 : x13 = .ref cda := e1
  have e4 : x7 = [(x, cc)] := e4
  subst e1 e4
  rw [hcl] at hx
  obtain rfl : x = "__class__" := by simpa using hx
  have hd8 : x8 = .none := by
    have z := He.dflB_ok hdv
    unfold Mi.DefU.dvs at z
    rw [hdf] at z
    rcases z with ⟨_, z⟩ | ⟨z, _⟩
    · exact z
    · exact absurd rfl z
  subst hd8
  rw [hn] at e0
  refine ⟨hmg, T.exB, T.ty, T.kC, hxf, fun f hf => hnf f (by simpa using hf), fun w A E Q hp g dr t os us hl X G hroom hq => ?_⟩
  obtain ⟨v, rfl⟩ : ∃ v, us = [v] := by
    match us, hl with
    | [v], _ => exact ⟨v, rfl⟩
  refine call_mk T X (by show 1 ≤ sizeLine; rw [sizeLine_eq]; omega) ?_
  have kk := old_not_new (hp := hp) (C := He.ga K c) (us := [v])
  have hlt : ∀ {b : Addr} {o : Obj}, hp.get? b = some o → b < hp.objs.size := fun q => Heap.lt_size q
  have hget : ((hp.push (kdv_tup [v])).push (PX.excO (He.ga K c) hp.objs.size)).get? (hp.objs.size + 1) = some (PX.excO (He.ga K c) hp.objs.size) := by heap_get
  have hne : K.lookup (hp.objs.size + 1) = none := by
    cases q : K.lookup (hp.objs.size + 1) with
    | none => rfl
    | some o => exact absurd (Nat.lt_trans (Nat.lt_succ_self _) (hlt (X _ _ q))) (Nat.lt_irrefl _)
  refine init1 (t0 := hp.objs.size) (b.base) T hbody ⟨⟨oc, od, osl, e0⟩, hcd, ⟨ccl, cdd, vs, ccs, fl, tf, e2, e3, ha⟩, ⟨cl, cld, csl, e5⟩⟩ ⟨let ⟨m, a, z⟩ := G.glob; ⟨m, a.keeps kk, z⟩, let ⟨m, a, z⟩ := G.blt; ⟨m, a.keeps kk, z⟩, G.lim.keeps kk, G.top⟩ (X.keeps kk) hget hne hroom
    (.of_eq (hbind _ _ _ _ _ _ _ _ _)) hpar har hks hkc hka hkf hk hpl hce hco hgen (taker_of (hnf _ (by simp))) (taker_of (hnf _ (by simp))) hfs hfc hfd fun h' tk' dx tc M => ⟨rfl, ?_⟩
  have sz : ((hp.push (kdv_tup [v])).push (PX.excO (He.ga K c) hp.objs.size)).objs.size = hp.objs.size + 2 := by rw [Heap.size_push, Heap.size_push]
  have gone : ∀ {a : Addr}, hp.objs.size ≤ a → hp.get? a = none := fun {a} l => by
    cases q : hp.get? a with
    | none => rfl
    | some o => exact absurd (Nat.lt_of_lt_of_le (hlt q) l) (Nat.lt_irrefl _)
  have dl := M.new
  rw [sz] at dl
  exact hq h' tk' (hp.objs.size + 1) dx tc (gone (Nat.le_succ _)) (gone (by omega)) (Nat.ne_of_gt dl) (fun b o q => M.keep b o (Nat.ne_of_lt (Nat.lt_succ_of_lt (hlt q))) (kk b o q)) M.exc M.dct
end
end Mx

/-! Mini XD: raise C(..). -/
namespace Mi
open PySem PySem.Spec PyProof.Rows L2
/-- an own exception that may be made: its class's facts, the names that its __init__ reads -/
structure ExcT (prog : Program) (G : Gx) (c : Str) (fo : Option Str) : Prop where
  ex : Mx.ExcF prog G.K G.mg c (He.ga G.K c) fo
  sup : G.mg "super" = none
  top : (prog.main.scope.names.lookup ("super" : Str)).isSome = false
def excFs (c : Str) (fo : Option Str) (us : List U) : List (Str × U) := ("code", .str c) :: fo.toList.zip us
def excVs (c : Str) (fo : Option Str) (vs : List V) : List (Str × V) := ("code", .str c) :: fo.toList.zip vs
theorem relV_str {v : V} {z : Str} {t1 t2 : Tok} (h : RelV v (.str z t1)) : RelV v (.str z t2) := by
  cases v with
  | non => cases h
  | bl b => cases h
  | int i => obtain ⟨t, h⟩ := h; cases h
  | str x => obtain ⟨t, h⟩ := h; cases h; exact ⟨_, rfl⟩
  | byt b => obtain ⟨t, h⟩ := h; cases h
  | flt b => obtain ⟨t, h⟩ := h; cases h
  | ref a => cases h
  | ty n => cases h
theorem exc_lk {c : Str} {fo : Option Str} {vs : List V} {us : List Value} {tc : Tok} (r : Vals vs us) (y : Str) :
    ((excVs c fo vs).lookup y = none ∧ ((("code" : Str), Value.str c tc) :: fo.toList.zip us).lookup y = none) ∨ ∃ v u, (excVs c fo vs).lookup y = some v ∧ ((("code" : Str), Value.str c tc) :: fo.toList.zip us).lookup y = some u ∧ RelV v u := by
  have gen : ∀ {ks : List Str} {vs : List V} {us : List Value}, Vals vs us → ((ks.zip vs).lookup y = none ∧ (ks.zip us).lookup y = none) ∨ ∃ v u, (ks.zip vs).lookup y = some v ∧ (ks.zip us).lookup y = some u ∧ RelV v u := by
    intro ks
    induction ks with
    | nil => intro vs us _; exact .inl ⟨rfl, rfl⟩
    | cons k ks ih =>
      intro vs us r
      cases r with
      | nil => exact .inl ⟨rfl, rfl⟩
      | cons r0 r =>
        rw [List.zip_cons_cons, List.zip_cons_cons]
        by_cases h : y = k
        · subst h
          exact .inr ⟨_, _, Mx.lk_eq, Mx.lk_eq, r0⟩
        · rw [Mx.lk_ne h, Mx.lk_ne h]
          exact ih r
  unfold excVs
  by_cases h : y = "code"
  · subst h
    exact .inr ⟨_, _, Mx.lk_eq, Mx.lk_eq, ⟨_, rfl⟩⟩
  · rw [Mx.lk_ne h, Mx.lk_ne h]
    exact gen r
section
variable {X : Cx} {W : WX} {x : Str} {e : Expr} {es : List Expr} {ms : M (List U)} {fo : Option Str} {p p2 p3 pos : Pos} {ta : TA}
theorem ExG_of {pins : List (Addr × Obj)} {σ : L2.St} {H : Hp} {s : Shared} {c : Str} (T : ExcT X.prog (gx X) c fo) (I : Inv X pins σ H s) : Mx.ExG X.prog s.heap := by
  refine ⟨⟨X.mg, I.mod.glob.keeps I.bk, T.sup⟩, ?_, I.nolimit, T.top⟩
  obtain ⟨mb, h1, h2⟩ := I.mod.blt
  exact ⟨mb, h1.keeps I.bk, (h2 "super" (by decide)).trans (by decide +kernel)⟩
/-- the call of the class -/
theorem exc_call {pins : List (Addr × Obj)} {σ : L2.St} {H : Hp} {s : Shared} {Q : XK} {us : List Value} {vs : List V} {c : Str} (T : ExcT X.prog (gx X) c fo) (I : Inv X pins σ H s) (r : Vals vs us) (hl : vs.length = fo.toList.length) (hr : Room 1 X.A)
    (h : ∀ d, H d = none → Q (.ref (He.ga X.K c)) (some d) (upd H d (.xd (excVs c fo vs)))) : wpAny (model X.prog X.w) X.A (PySem.call (.ref (He.ga X.K c)) us) (MkP X pins σ Q) X.xe s := by
  obtain ⟨hp, g, d, t, os⟩ := s
  refine T.ex.call X.w X.A _ _ hp g d t os us (by rw [← r.length]; exact hl) I.kIn (ExG_of T I) (hr.make _ us []).depth fun h' tk' e dx tc ne nd nde k hexc hdct => ?_
  obtain ⟨t1, he⟩ := hexc
  obtain ⟨m, hns, hm⟩ := hdct
  obtain ⟨G, g1, g2⟩ := restrict h' fun b => decide (b ≠ e)
  have gk : ∀ b, b ≠ e → G.get? b = h'.get? b := fun b hb => g1 b (decide_eq_true hb)
  have ge : G.get? e = none := g2 e (by simp)
  have hNe : H e = none := I.hok.gone ne
  have hNd : H dx = none := I.hok.gone nd
  have nb : ∀ b o, hp.get? b = some o → b ≠ e := fun b o q z => by rw [z, ne] at q; cases q
  have kG : ∀ b o, hp.get? b = some o → G.get? b = some o := fun b o q => by rw [gk b (nb b o q)]; exact k b o q
  have hnsG : G.Ns1 dx m := hns.at fun o q => by rw [gk dx nde]; exact q
  have J : Inv X pins σ (upd H dx (.xd (excVs c fo vs))) ⟨G, g, d, tk', os⟩ := I.laidN kG nd hNd ⟨m, hnsG, fun y => by
    rcases exc_lk (c := c) (fo := fo) (tc := tc) r y with ⟨a1, a2⟩ | ⟨v, u, a1, a2, a3⟩
    · rcases hm y with ⟨_, b2⟩ | ⟨_, _, b1, _⟩
      · rw [a1, b2]; trivial
      · rw [a2] at b1; cases b1
    · rcases hm y with ⟨b1, _⟩ | ⟨u', v', b1, b2, b3⟩
      · rw [a2] at b1; cases b1
      · rw [a2] at b1; cases b1
        rw [a1, b2]
        rcases b3 with rfl | ⟨z, t1, t2, rfl, rfl⟩
        · exact a3
        · exact relV_str a3⟩
  refine ⟨e, _, _, ⟨G, g, d, tk', os⟩, _, .ref (He.ga X.K c), some dx, rfl, J, fun b o q => ?_, ge, he, ⟨rfl, rfl⟩, rfl, rfl, ?_, rfl, I.bare, raises_own T.ex.exB T.ex.ty, h dx hNd⟩
  · by_cases z : b = e
    · rw [z, ge] at q; cases q
    · exact (gk b z).symm.trans q
  · rw [upd_ne (fun z => nde z.symm)]; exact hNe
def tMkE (K : PySem.W.Frag) (c : Str) (fo : Option Str) (ta : TA) : L2.St → Hp → XK → Prop := fun σ H Q => ta σ H fun vs H1 => vs.length = fo.toList.length ∧ ∀ d, H1 d = none → Q (.ref (He.ga K c)) (some d) (upd H1 d (.xd (excVs c fo vs)))
theorem pmk_e (T : ExcT X.prog (gx X) x fo) (hr : Room 1 X.A) (hg : Gl X x) (ha : PA X (e :: es) ta) (hdb : (x == ("__debug__" : Str)) = false := by decide)
    (he : starEach (e :: es) X.env = (false, eval e X.env) :: starEach es X.env := by rfl) (hpl : (backTo pos (starEach es X.env)).any (·.1) = false := by rfl) : PMk X (.Call (.Name x p) (e :: es) [] pos) (tMkE X.K x fo ta) := by
  intro pins s σ H Q I h
  refine wpAny_Call_Name_kw (ld_glob I hg T.ex.mg ?_ hdb)
  refine PySem.W.callWith_K (h₀ := X.base) I.ok.mod.kin T.ex.kC (thn (ha.run pos pins s σ H _ I h) fun us s1 ⟨vs, H1, I1, r1, hl, q1⟩ => ⟨I1.kIn, ?_⟩) he hpl
  exact exc_call T I1 r1 hl hr q1
theorem pmk_e0 (T : ExcT X.prog (gx X) x none) (hr : Room 1 X.A) (hg : Gl X x) (hdb : (x == ("__debug__" : Str)) = false := by decide) :
    PMk X (.Call (.Name x p) [] [] pos) (tMkE X.K x none fun _ H Q => Q [] H) := by
  intro pins s σ H Q I h
  refine wpAny_Call_Name_kw (ld_glob I hg T.ex.mg ?_ hdb)
  exact PySem.W.callWith_K0 I.kIn T.ex.kC (exc_call T I .nil h.1 hr h.2)
theorem excRepF {G : Gx} {ρ : Rho} {H : Hp} {c : Str} {us : List U} {vs : List V} (r : Reps G ρ H us vs) : RepF G ρ H (excFs c fo us) (excVs c fo vs) := by
  have gen : ∀ {ks : List Str} {us : List U} {vs : List V}, Reps G ρ H us vs → RepF G ρ H (ks.zip us) (ks.zip vs) := by
    intro ks
    induction ks with
    | nil => intro us vs _; exact .nil
    | cons k ks ih =>
      intro us vs r
      cases r with
      | nil => exact .nil
      | cons r0 r => exact .cons r0 (ih r)
  exact .cons .str (gen r)
def raiseM (c : Str) (fo : Option Str) (ms : M (List U)) : Sm := bd ms fun us s => if us.length = fo.toList.length then .err (.exc c (excFs c fo us)) s else .stuck
theorem raise_run {c : Str} (T : ExcT X.prog (gx X) c fo) {t : TA} (h : ∀ ρ s σ H Q, Rl (gx X) ρ s σ H → OkA X W ρ σ H (ms s) Q → t σ H Q) {ρ : Rho} {s : MS} {σ : L2.St} {H : Hp} {D : Ends} (R : Rl (gx X) ρ s σ H) (k : OkS X W ρ H (raiseM c fo ms s) D) :
    tMkE X.K c fo t σ H fun cls d H' => W cls d σ H' := by
  refine h ρ s σ H _ R (OkS.bdE k fun us s1 ρ1 H1 vs _ x1 R1 r1 h1 => ?_)
  have h1 : OkS X W ρ1 H1 (if us.length = fo.toList.length then .err (.exc c (excFs c fo us)) s1 else .stuck) D := h1
  by_cases hl : us.length = fo.toList.length
  · rw [if_pos hl] at h1
    refine ⟨r1.length.symm.trans hl, fun d hd => ?_⟩
    have U1 : Ext (gx X) ρ1 H1 ρ1 (upd H1 d (.xd (excVs c fo vs))) := R1.laidExt hd
    exact h1 ρ1 σ _ _ _ U1 (R1.laid hd) ⟨_, T.ex.mg, rfl, d, _, rfl, upd_same, excRepF (r1.up U1.toUp)⟩
  · rw [if_neg hl] at h1; exact h1.elim
theorem ss_raise (T : ExcT X.prog (gx X) x fo) (hc : X.calm = true) (tk : Takes X W) (hr : Room 1 X.A) (hg : Gl X x) (ha : SA X W (e :: es) ms) (hdb : (x == ("__debug__" : Str)) = false := by decide)
    (he : starEach (e :: es) X.env = (false, eval e X.env) :: starEach es X.env := by rfl) (hpl : (backTo p2 (starEach es X.env)).any (·.1) = false := by rfl) : SS X W (.Raise (some (.Call (.Name x p) (e :: es) [] p2)) none p3) (raiseM x fo ms) := by
  obtain ⟨⟨t, pa, h⟩, _⟩ := ha
  exact ⟨_, ps_raise hc tk (pmk_e T hr hg pa hdb he hpl), fun ρ s σ H D R k => raise_run T h R k⟩
theorem ss_raise0 (T : ExcT X.prog (gx X) x none) (hc : X.calm = true) (tk : Takes X W) (hr : Room 1 X.A) (hg : Gl X x) (hdb : (x == ("__debug__" : Str)) = false := by decide) :
    SS X W (.Raise (some (.Call (.Name x p) [] [] p2)) none p3) (raiseM x none (ret [])) :=
  ⟨_, ps_raise hc tk (pmk_e0 T hr hg hdb), fun ρ s σ H D R k => raise_run T (fun ρ s σ H Q R h => h.ret R .nil) R k⟩
end
end Mi

/-! Mini XE: try: .. except (A, B, C, D) as e: .. -/
namespace Mx
open PySem PySem.W PySem.Calls PyProof.Rows PySem.Spec PyProof.V
/-- a hit among four classes -/
theorem exm4 {M : Model} {K : Frag} {c1 c2 c3 c4 cls : Value} {tp e : Addr} {b : Bool} {h : Heap} (X : K.In h) (LT : Looks M h (typeOf (.ref e)) cls) (hp : h.get? tp = some { cls := .type "tuple", data := .seq [c1, c2, c3, c4].toArray }) (hx : exmAny K cls [c1, c2, c3, c4] = some b) :
    Looks M h (excMatches (.ref e) (.ref tp)) b := by
  obtain ⟨b1, r1, x1, y1, z1⟩ := exmAny_cons hx
  obtain ⟨b2, r2, x2, y2, z2⟩ := exmAny_cons y1
  obtain ⟨b3, r3, x3, y3, z3⟩ := exmAny_cons y2
  obtain ⟨b4, r4, x4, y4, z4⟩ := exmAny_cons y3
  have y4 : some false = some r4 := y4
  cases y4
  subst z1 z2 z3 z4
  have tup : Looks M h (isInstance (.ref tp) (.type "tuple")) true := ((Looks.ld hp).andThen .now).andThen (Looks.of_pure isSubtype_tuple_tuple)
  obtain ⟨e1, s1⟩ := exm_cls (M := M) X x1
  obtain ⟨e2, s2⟩ := exm_cls (M := M) X x2
  obtain ⟨e3, s3⟩ := exm_cls (M := M) X x3
  obtain ⟨e4, s4⟩ := exm_cls (M := M) X x4
  intro A Q E s k q
  obtain ⟨hh, g, d, tk, os⟩ := s
  have k : ∀ b o, h.get? b = some o → hh.get? b = some o := k
  have E1 := e1.keeps k; have E2 := e2.keeps k; have E3 := e3.keeps k; have E4 := e4.keeps k
  have S1 := s1.keeps k; have S2 := s2.keeps k; have S3 := s3.keeps k; have S4 := s4.keeps k
  have LTk := LT.keeps k; have tupk := tup.keeps k; have hpk := k _ _ hp
  unfold excMatches
  refine wpAny_bind (tupk.at ?_)
  dsimp only
  rw [if_pos rfl]
  first
    | exact absurd rfl (by assumption)
    | refine wpAny_bind (wpAny_seqItems hpk rfl ?_)
    | refine wpAny_bind (wpAny_bind (wpAny_seqItems hpk rfl (wpAny_pure ?_)))
  dsimp only [Option.getD_some, Option.getD]
  cases b1 <;> cases b2 <;> cases b3 <;> cases b4 <;> ((repeat (first | simp only [List.forIn_cons, List.forIn_nil, Bool.not_true, Bool.false_eq_true, if_false, if_true] | lk)); exact q)
end Mx
namespace Mi
open PySem PySem.Spec PyProof.Rows L2
/-- a new object beside an exception in flight -/
theorem fly_push {B h : Heap} {l : List Env} {a : Addr} {Z : Obj → Prop} (x : HandSPX.FlyingZ B l a Z h) (o : Obj) : HandSPX.FlyingZ B l a Z (h.push o) := by
  obtain ⟨h1, h2, h3, oe, vs, T, oT, ts, e1, e2, e3, e4, e5, e6, e7, e8, e9⟩ := x
  have k : ∀ {b : Addr} {u : Obj}, h.get? b = some u → (h.push o).get? b = some u := fun e => Heap.get?_push_of_some _ e
  exact ⟨fun b u q => k (h1 b u q), h2, Heap.FunFrames.of_keeps (fun b u q _ => ⟨u, k q, rfl⟩) h3, oe, vs, T, oT, ts, k e1, e2, e3, e4, e5, e6, k e7, e8, e9⟩
/-- what the clause wishes of an exception of the body: one of the classes is its own -/
def wT (K : PySem.W.Frag) (cs : List Value) (i : Nat) (ts : Addr → Value → Option Addr → TS) (D : Ends) : WX := fun cls d σ H => PySem.W.exmAny K cls cs = some true ∧
  ∀ a, H a = none → ts a cls d { nx := fun σ' H' => D.nx (σ'.set i none) H', rt := D.rt, bk := fun σ' H' => D.bk (σ'.set i none) H', ct := fun σ' H' => D.ct (σ'.set i none) H' } (σ.set i (some (.ref a))) H
section
variable {X : Cx} {x1 x2 x3 x4 n : Str} {c1 c2 c3 c4 : Value} {i kk : Nat} {body suite : List Stmt} {b₀ : Stmt} {q1 q2 q3 q4 tpos pos pos' : Pos} {tb : WX → TS} {ts : Addr → Value → Option Addr → TS}
theorem ps_tryT (hs : X.stack = X.env :: X.outer) (hf : X.env.frame = some X.env.locals) (hN : X.N.Nodup) (hi : X.N[i]? = some n) (hln : X.env.kindOf n = some .local) (n1 : Gl X x1 ∧ X.mg x1 = some c1 ∧ (x1 == ("__debug__" : Str)) = false) (n2 : Gl X x2 ∧ X.mg x2 = some c2 ∧ (x2 == ("__debug__" : Str)) = false)
    (n3 : Gl X x3 ∧ X.mg x3 = some c3 ∧ (x3 == ("__debug__" : Str)) = false) (n4 : Gl X x4 ∧ X.mg x4 = some c4 ∧ (x4 == ("__debug__" : Str)) = false)
    (hb : ∀ (W : WX) (pn : List (Addr × Obj)) (xe : Value → Shared → Prop), Takes (X.tr pn xe) W → PassesOwn (model X.prog X.w) X.A X.env xe → PSs (X.tr pn xe) body (tb W))
    (hsu : ∀ (a : Addr) (oe : Obj) (cls : Value) (d : Option Addr) (pn : List (Addr × Obj)), Zc cls d oe → (∃ vs, oe.data = .fields vs) → X.base.get? a = none → PSs (X.suite a ((a, oe) :: pn)) (b₀ :: suite) (ts a cls d)) :
    PS X (.Try body [.ExceptHandler (some (.Tuple [.Name x1 q1, .Name x2 q2, .Name x3 q3, .Name x4 q4] kk tpos)) (some n) (b₀ :: suite) pos'] [] [] pos) (fun D σ H => tb (wT X.K [c1, c2, c3, c4] i ts D) D σ H) := by
  refine ⟨fun pins s σ H D I h => ?_⟩
  have ok := I.ok
  have frs_ : X.A.frames = some (X.env :: X.outer) := by rw [ok.frames, hs]
  refine wpAny_Try_except ?_
  refine wpAny_mono ((hb (wT X.K [c1, c2, c3, c4] i ts D) (X.pn ++ pins) (fun e s₁ => wpAny (model X.prog X.w) X.A (noteFrame e X.env) (fun _ s₂ => wpAny (model X.prog X.w) X.A (setFlight e none) (fun _ s₃ =>
    wpAny (model X.prog X.w) X.A (handleBy e X.env [.ExceptHandler (some (.Tuple [.Name x1 q1, .Name x2 q2, .Name x3 q3, .Name x4 q4] kk tpos)) (some n) (b₀ :: suite) pos']) (SP X pins D) X.xe s₃) X.xe s₂) X.xe s₁) (fun u s' air => ?_) PassesOwn.looking).run [] s σ H D (I.toTry _) h) (fun f s1 hsp => ?_) (fun e s1 he => he)
  · obtain ⟨a, B, sI, ps, σ1, H1, cls, d, rfl, J0, nb, up, sky, na, os, ag, hit, go⟩ := air
    have J := J0.ofTry ok
    rw [show (X.tr (X.pn ++ pins) _).stack = X.env :: X.outer from hs] at sky
    refine Sky.land Zc.steady frs_ hf sky fun h3 fl up3 => ?_
    -- the state as the clause finds it
    have J3 : Inv X pins σ1 H1 { s' with heap := h3 } := J.landed nb fl.1 (up.trans up3) os ag
    obtain ⟨oe3, vs3, he3, hz3, hd3⟩ := fl.there
    have far : a ∉ frs (X.env :: X.outer) := fun hm => by
      obtain ⟨_, o', e', hnf⟩ := fl.2.2.1.mem hm
      rw [he3] at e'; cases e'
      exact hnf _ hd3
    have nL : a ≠ X.env.locals := fun z => far (List.mem_filterMap.mpr ⟨X.env, List.mem_cons_self, by rw [hf, z]⟩)
    have nF : a ∉ X.fs := fun hm => by
      obtain ⟨ev, hev, q⟩ := List.mem_filterMap.mp hm
      exact far (List.mem_filterMap.mpr ⟨ev, List.mem_cons_of_mem _ hev, q⟩)
    have nbase : X.base.get? a = none := by
      cases e : X.base.get? a with
      | none => rfl
      | some o =>
        have z := nb a o (J.bk a o e) (by rw [hs]; exact far)
        rw [fl.2.1] at z; cases z
    have S3 := J3.suite he3 hd3 na nL nF
    refine wpAny_handleBy_cons (codeAny_handlers_test ?_) (by intro q; cases q)
    have nm : ∀ {x : Str} {c : Value} {q : Pos} {Q : Value → Shared → Prop} {E : Value → Shared → Prop}, Gl X x ∧ X.mg x = some c ∧ (x == ("__debug__" : Str)) = false → Q c { s' with heap := h3 } → wpAny (model X.prog X.w) (X.A.mark (some (.ref a))) (eval (.Name x q) X.env) Q E { s' with heap := h3 } := fun {x c q Q E} g k => ld_glob (X := X.suite a ((a, oe3) :: (X.pn ++ pins))) S3 g.1 g.2.1 k g.2.2
    refine Tuple_ (spliced_more (nm n1 (spliced_more (nm n2 (spliced_more (nm n3 (spliced_more (nm n4 (spliced_none ?_)) (by rfl))) (by rfl))) (by rfl))) (by rfl))
    refine wpAny_newObj_type ?_
    have fl4 := fly_push fl { cls := .type "tuple", dict := none, data := .seq [c1, c2, c3, c4].toArray }
    have k4 : ∀ b u, h3.get? b = some u → (h3.push { cls := .type "tuple", dict := none, data := .seq [c1, c2, c3, c4].toArray }).get? b = some u := fun b u q => Heap.get?_push_of_some _ q
    have LT : PySem.W.Looks (model X.prog X.w) (h3.push { cls := .type "tuple", dict := none, data := .seq [c1, c2, c3, c4].toArray }) (typeOf (.ref a)) cls := fun A Q E s k q => wpAny_typeOf_ref (k _ _ (k4 _ _ he3)) (by rw [hz3.1]; exact q)
    refine (Mx.exm4 (J3.kIn.keeps k4) LT (Heap.get?_push_at rfl rfl) hit).here ?_
    refine codeAny_handlers_suite_as ?_
    refine HandSPX.lands_againZ fl4 fun h5 fl5 up5 => ?_
    have J5 : Inv X pins σ1 H1 { s' with heap := h5 } := J.landed nb fl5.1 (((up.trans up3).trans (Heap.UpToSlots.of_keeps k4)).trans up5) os ag
    obtain ⟨oe5, vs5, he5, hz5, hd5⟩ := fl5.there
    have S5 := J5.suite he5 hd5 na nL nF
    refine store_ok (X := X.suite a ((a, oe5) :: (X.pn ++ pins))) (v := .ref a) S5 hN hi (.inl hln) rfl (fun s6 S6 => ?_) (.inr hln)
    refine wpAny_mono ((hsu a oe5 cls d (X.pn ++ pins) hz5 ⟨_, hd5⟩ nbase).run [] s6 _ H1 _ S6 (go a na)) (fun f s7 hsp => ?_) (fun _ _ z => False.elim z)
    have out : ∀ {σ' : L2.St} {H' : Hp} {Q : Shared → Prop}, Inv (X.suite a ((a, oe5) :: (X.pn ++ pins))) [] σ' H' s7 → (∀ s8, Inv X pins (σ'.set i none) H' s8 → Q s8) →
        wpAny (model X.prog X.w) X.A (do bindName X.env n .none; unbindBehindTheSuite X.env n pos') (fun _ s8 => Q s8) X.xe s7 := fun {σ' H' Q} S hq => gone_ok (S.unsuite ok) hN hi hln hq
    cases f with
    | next => obtain ⟨σ', H', S, q⟩ := hsp; exact out S fun s8 J8 => ⟨_, _, J8, q⟩
    | brk => obtain ⟨σ', H', S, q⟩ := hsp; exact out S fun s8 J8 => ⟨_, _, J8, q⟩
    | cont => obtain ⟨σ', H', S, q⟩ := hsp; exact out S fun s8 J8 => ⟨_, _, J8, q⟩
    | ret u => obtain ⟨v, σ', H', S, r, q⟩ := hsp; exact out S fun s8 J8 => ⟨_, _, _, J8, r, q⟩
  · cases f with
    | next => obtain ⟨σ', H', S, q⟩ := hsp; exact wpAny_execs_nil ⟨σ', H', S.ofTry ok, q⟩
    | brk => obtain ⟨σ', H', S, q⟩ := hsp; exact ⟨σ', H', S.ofTry ok, q⟩
    | cont => obtain ⟨σ', H', S, q⟩ := hsp; exact ⟨σ', H', S.ofTry ok, q⟩
    | ret u => obtain ⟨v, σ', H', S, r, q⟩ := hsp; exact ⟨v, σ', H', S.ofTry ok, r, q⟩
end
end Mi

/-! Mini XF: fields of exceptions; defs that may be called where an exception is handled; a call with the handled exception. -/
namespace Mi
open PySem PySem.Spec PyProof.Rows L2
/-! ### e.f -/
section
variable {X : Cx} {W : WX} {o : Expr} {m : M U} {pos : Pos}
theorem pe_xq {f : Str} {to : TE} (ho : PE X o to) (hb : attributeBase o f X.env (eval o X.env) = eval o X.env := by rfl) :
    PE X (.Attribute o f pos) (fun σ H Q => to σ H fun x H1 => ∃ (a : Addr) (oe : Obj) (C dd : Addr) (fs : List (Str × V)) (v : V), x = .ref a ∧ H1 a = some (exq a oe) ∧ Zc (.ref C) (some dd) oe ∧ (∃ fv, oe.data = .fields fv) ∧ XfC X.K C ∧ PySem.W.findIn X.K (.ref C) f = some none ∧
      H1 dd = some (.xd fs) ∧ fs.lookup f = some v ∧ Q v H1) := by
  refine ⟨fun pins s σ H Q I h => ?_⟩
  refine attr_of hb (thn (ho.run pins s σ H _ I h) fun u s1 ⟨x, H1, I1, rx, a, oe, C, dd, fs, v, ex, ea, hz, ⟨fv, hd⟩, T, hno, ed, l, q⟩ => ?_)
  subst ex
  obtain rfl : u = Value.ref a := rx
  have ha : s1.heap.get? a = some oe := (I1.hok a _ ea).1
  obtain ⟨mA, hns, hr⟩ : ∃ mA, s1.heap.Ns1 dd mA ∧ ∀ f, RelO (fs.lookup f) (mA f) := I1.hok dd _ ed
  obtain ⟨od, hod, hlk⟩ := lookIn_ns hns
  obtain ⟨u, hu, ru⟩ := RelO.some_of (v := v) (o := mA f) (by rw [← l]; exact hr f)
  have J : PySem.W.InstAt s1.heap a oe C (some od) := ⟨ha, hz.1, by unfold PySem.W.notCls; rw [hd] <;> rfl, by rw [hz.2]; exact hod⟩
  exact HandSPX.exc_get I1.kIn J T.ga T.gg T.exC (PySem.W.findObj_own T.hdC hno rfl (by rw [hlk, hu])) (handed_of ru) ⟨v, H1, I1.tok _, ru, q⟩
/-- fields that may be read of exceptions -/
def FldX (G : Gx) (xl : Str → Str → Bool) : Prop := ∀ c f C, xl c f = true → G.mg c = some (.ref C) → XfC G.K C ∧ PySem.W.findIn G.K (.ref C) f = some none
def getX (xl : Str → Str → Bool) (f : Str) : U → M U
  | .exc c fs => when (xl c f) (ofO (fs.lookup f))
  | _ => stk
theorem se_fldX {f : Str} {xl : Str → Str → Bool} (T : FldX (gx X) xl) (h : SE X W o m) (hb : attributeBase o f X.env (eval o X.env) = eval o X.env := by rfl) : SE X W (.Attribute o f pos) (bd m (getX xl f)) := by
  obtain ⟨t, p, h⟩ := h
  refine ⟨_, pe_xq p hb, fun ρ s σ H Q R k => h ρ s σ H _ R (k.bd fun u s1 ρ1 H1 v _ x1 R1 r1 h1 => ?_)⟩
  cases u with
  | exc c fs =>
    have h1 : OkV X W ρ1 σ H1 (when (xl c f) (ofO (fs.lookup f)) s1) Q := h1
    obtain ⟨e1, h1⟩ := h1.when
    obtain ⟨w, e2, h1⟩ := h1.ofO
    cases r1 with
    | exc m z ha hd n n' r =>
      obtain ⟨T1, T2⟩ := T c f _ e1 m
      obtain ⟨v, l, rv⟩ := r.get e2
      exact ⟨_, _, _, _, _, v, rfl, ha, z.1, z.2, T1, T2, hd, l, h1.ret R1 rv⟩
  | _ => exact h1.elim
end
/-! ### defs that may be called there -/
def FnHU (P : Program) (w : World) (G : Gx) (base : Heap) (k : Nat) (f : Addr) (g : F) : Prop := ∀ (A : Around) (outer : List Env) (s : Shared) (H : Hp) (us : List Value) (vs : List V) (Q : VK) (E : XK), L2H.RoomH k A → Env0 P w G.K G.mg base A outer s H → Vals vs us → spR G g vs H Q E →
  codeAny (model P w) A (.call (.ref f) ⟨us, []⟩) (CR (L2.CX P w) outer P w H s Q E) s
theorem FnHU.u {P : Program} {w : World} {G : Gx} {base : Heap} {k : Nat} {f : Addr} {g : F} (h : FnHU P w G base k f g) : FnU P w G base k f g := fun A outer s H us vs Q E hr e0 r hs => h A outer s H us vs Q E (L2H.roomH_of hr) e0 r hs
theorem _root_.L2H.RoomH.units {k : Nat} {A : Around} (r : L2H.RoomH k A) : A.units + 64 < cLine := by have := r.un; omega
theorem _root_.L2H.RoomH.u65 {k : Nat} {A : Around} (r : L2H.RoomH k A) : A.units + 65 < cLine := by have := r.un; omega
theorem fnHM {P : Program} {w : World} {G : Gx} {base : Heap} {x qual : Str} {params : Arguments} {body : List Stmt} {scope : Scope} {kws : List (Str × V)} {f : Addr} {fd : FuncData} {N ps : List Str} {k : Nat} {m : Sm}
    (Fd : FunD G.K x qual params body scope [] kws f fd) (hbi : L2.Binds G.K fd ps []) (S : FnScope N ps scope)
    (hb : ∀ (cdv : Value) (A : Around) (outer : List Env) (s : Shared) (H : Hp) (E : XK) (p : Addr × Obj), L2H.RoomH k (A.deeper (envOfC qual scope s.heap.objs.size f cdv)) →
      SSs (L2H.cxH (L2.CX P w) P w G.K G.mg base N qual scope f cdv A outer s H E p) (fun cls d _ H => E cls d H) body m) : FnHU P w G base (k + 1) f (arF ps.length [] (mkF N.length m)) := by
  intro A outer s H us vs Q E hr e0 r h
  obtain ⟨oc, od, dV, kV, doc, pm, an, cdv, ct, osl, rfl, lk, hcd, _, _⟩ := Fd.ex
  have old : ∀ b o, base.get? b = some o → s.heap.get? b = some o := fun b o e => (e0.bs b o e).1
  have kin : G.K.In s.heap := e0.mod.kin.keeps old
  have lim : s.heap.NoLimit := e0.mod.nolimit.keeps old
  obtain ⟨ρ, st, vu, R, ru, hok⟩ := h
  by_cases hn : vu.length = ps.length
  · have hl : vs.length = ps.length := by rw [← ru.length, hn]
    have hlu : us.length = ps.length := by rw [← r.length, hl]
    have bnd := hbi s us kin (by rw [List.append_nil]; exact hlu)
    rw [List.append_nil] at bnd
    -- an object of the base, to be pinned
    obtain ⟨og, es, ep, hog, hdg, _⟩ := e0.mod.glob
    have nofr : mainGlobals ∉ frs outer := fun hm => by
      have z := (e0.funs.mem hm).1
      rw [hog] at z
      cases z
    have nocl : ∀ v, og.data ≠ .cell v := fun v z => by
      rw [hdg] at z
      cases z
    have pin : L2H.PinOk outer H s (mainGlobals, og) := ⟨old _ _ hog, (e0.bs _ _ hog).2, nofr, nocl⟩
    have kinds : ∀ y ∈ ps.zip us, scope.names.lookup y.1 = some .local ∨ (scope.names.lookup y.1 = some .cell ∧ ((cellsFrom (s.heap.objs.size + 1) scope.names []).lookup y.1).isSome = true) := fun y hy => by
      rcases S.par y.1 (List.of_mem_zip hy).1 with q | q
      · exact .inl q
      · exact .inr ⟨q, PySem.W.cellsFrom_some _ _ _ (.inl q)⟩
    refine codeAny_call_function hr.depth (kin _ _ lk) rfl S.co S.gen rfl (PySem.W.codeRec_of kin hcd) (bnd _ _ _ _ ?_)
    refine wpAny_newFunctionEnv_cells S.kind kinds fun env he s1 x => ?_
    subst he
    refine ⟨lim.keeps x.toInCall.keep, codeAny_func ?_⟩
    obtain ⟨t, pt, q⟩ := hb cdv A outer s H E (mainGlobals, og) (hr.deeper _)
    have I := L2H.inv_startH (CX := L2.CX P w) (N := N) (qual := qual) (f := f) (cd := cdv) (E := E) S pin e0 hl r x
    have hok : OkF G ρ H (mkF N.length m vu st) Q E := by
      unfold arF at hok
      rw [if_pos hn, List.append_nil] at hok
      exact hok
    have go : t { nx := fun _ H' => Q .non H', rt := Q } (L2.start N vs) H := by
      refine q ρ _ _ H _ (rl_start (N := N) R ru) ?_
      unfold mkF at hok
      cases z : m ⟨vu.map Sl.val ++ List.replicate (N.length - vu.length) Sl.no, st⟩ with
      | ok fl s' =>
        rw [z] at hok
        cases fl with
        | nx =>
          intro ρ' σ' H' x R'
          obtain ⟨R2, x2⟩ := rl_end (ρ' := ρ') (H' := H') R'
          exact hok _ H' .non (x.trans x2) R2 .non
        | rt u =>
          intro ρ' σ' H' v x R' r'
          obtain ⟨R2, x2⟩ := rl_end (ρ' := ρ') (H' := H') R'
          exact hok _ H' v (x.trans x2) R2 (r'.up x2.toUp)
        | bk => exact hok.elim
        | ct => exact hok.elim
      | err y s' =>
        rw [z] at hok
        intro ρ' σ' H' cls d x R' r'
        obtain ⟨R2, x2⟩ := rl_end (ρ' := ρ') (H' := H') R'
        exact hok _ H' cls d (x.trans x2) R2 (r'.up x2.toUp fun _ _ _ e => e)
      | stuck => rw [z] at hok; exact hok.elim
    refine wpAny_mono (pt.run [] s1 (L2.start N vs) H _ I go) (fun fl s' hs => ?_) fun e s' hs => hs
    have fin : ∀ {σ' : L2.St} {H' : Hp} {v : V} {u : Value}, Inv (L2H.cxH (L2.CX P w) P w G.K G.mg base N qual scope f cdv A outer s H E (mainGlobals, og)) [] σ' H' s' → RelV v u → Q v H' → CE outer P w H s Q u s' := fun {σ' H' v u} J rv q => ⟨v, H', J.os, J.bare, J.base, J.hok, rv, q⟩
    cases fl with
    | ret u => obtain ⟨v, σ', H', J, rv, q⟩ := hs; exact fin J rv q
    | next => obtain ⟨σ', H', J, q⟩ := hs; exact fin (v := V.non) (u := Value.none) J rfl q
    | brk => obtain ⟨_, _, _, q⟩ := hs; exact False.elim q
    | cont => obtain ⟨_, _, _, q⟩ := hs; exact False.elim q
  · exfalso
    unfold arF at hok
    rw [if_neg hn] at hok
    exact hok.elim
end Mi

/-! Mini XG: told: try: return ("told", ask()) / except (A, B, C, D) as e: return ("no", e.code) + field(e); handed lambdas. -/
namespace Mi
open PySem PySem.Spec PyProof.Rows L2
/-! a def called with the exception that is handled -/
section
variable {Y : Cx} {a : Addr} {oe : Obj} {pn : List (Addr × Obj)} {x n : Str} {i k : Nat} {f : Addr} {g : F} {p q pos : Pos}
theorem pe_suite_call (Fn : FnHU Y.prog Y.w (gx Y) Y.base k f g) (hr : L2H.RoomH k (Y.A.mark (some (.ref a)))) (nb : Y.base.get? a = none) (hg : Gl Y x) (hm : Y.mg x = some (.ref f)) (hk : PySem.W.keepIn Y.K (.ref f) = true) (hN : Y.N[i]? = some n) (hv : Vis Y.env.scope n)
    (hdx : (x == ("__debug__" : Str)) = false := by decide) (hd : (n == ("__debug__" : Str)) = false := by decide) (hcd : (n == ("__classdict__" : Str)) = false := by decide) :
    PE (Y.suite a ((a, oe) :: pn)) (.Call (.Name x q) [.Name n p] [] pos) (fun σ H Q => σ[i]? = some (some (.ref a)) ∧ (H a = none →
      spR (gx Y) g [.ref a] (upd H a (exq a oe)) (fun v H' => H' a = some (exq a oe) ∧ Q v (delH H' a)) fun _ _ _ => False)) := by
  refine ⟨fun pins s σ H Q I h => ?_⟩
  obtain ⟨hs, h⟩ := h
  refine wpAny_Call_Name_kw (ld_glob (X := Y.suite a ((a, oe) :: pn)) I hg hm ?_ hdx)
  have pa : PA (Y.suite a ((a, oe) :: pn)) [.Name n p] (tCons (tVar i) tNil) := pa_cons (pe_var hN hv hd hcd) pa_nil (by rfl)
  refine PySem.W.callWith_K (h₀ := Y.base) I.ok.mod.kin hk (thn (pa.run pos pins s σ H (fun vs H1 => vs = [.ref a] ∧ H1 = H) I ⟨.ref a, hs, rfl, rfl⟩) fun us s1 ⟨vs, H1, I1, r, e1, e2⟩ => ⟨I1.kIn, ?_⟩) (by rfl) (by rfl)
  subst e1 e2
  have P1 := I1.pin (a, oe) (List.mem_append_left _ List.mem_cons_self)
  have na : H1 a = none := P1.2.1
  have nstk : a ∉ frs Y.stack := fun hm => (List.mem_cons.mp (I1.stkSub a hm)).elim P1.2.2.1 P1.2.2.2.1
  have e0 := I1.env0
  have hokp : HOk Y.prog Y.w (upd H1 a (exq a oe)) s1.heap := fun b u e => by
    by_cases hb : b = a
    · subst hb
      rw [upd_same] at e
      cases e
      exact ⟨P1.1, ⟨_, P1.1⟩, ⟨_, P1.1⟩, fun h1 h2 ⟨o, z⟩ st => ⟨o, st _ z⟩⟩
    · rw [upd_ne hb] at e
      exact (I1.hok b u e).stay (fun _ _ _ z => z) (fun c z => by rw [upd_ne (ne_of_none z na)]; exact z) fun c xs z => by rw [upd_ne (ne_of_none z na)]; exact z
  have e1 : Env0 Y.prog Y.w Y.K Y.mg Y.base (Y.A.mark (some (.ref a))) Y.stack s1 (upd H1 a (exq a oe)) := ⟨e0.frames, e0.mod, fun b o e => ⟨(e0.bs b o e).1, by
      have ne : b ≠ a := fun z => by
        rw [z, nb] at e
        cases e
      rw [upd_ne ne]
      exact (e0.bs b o e).2⟩, e0.bsz, e0.funs, fun b hb => by
      have ne : b ≠ a := fun z => nstk (by rw [← z]; exact hb)
      rw [upd_ne ne]
      exact e0.frf b hb, hokp, e0.bare⟩
  refine wpAny_call (codeAny_mono (Fn _ Y.stack s1 _ us [.ref a] _ _ hr e1 r (h na)) fun rs s' hq => ?_)
  cases rs with
  | error e => obtain ⟨_, _, _, _, _, _, _, _, _, _, _, _, z⟩ := (show L2.CX _ _ _ _ _ _ _ _ from hq); exact z.elim
  | ok fl =>
    cases fl with
    | next => exact False.elim hq
    | brk => exact False.elim hq
    | cont => exact False.elim hq
    | ret u =>
      obtain ⟨v, H2, os, bare, un, hok2, rv, ea, q2⟩ := hq
      have ha2 : s'.heap.get? a = some oe := (hok2 a _ ea).1
      have up : ∀ {b : Addr}, b ≠ a → H1 b = none → upd H1 a (exq a oe) b = none := fun hb z => by rw [upd_ne hb]; exact z
      refine ⟨v, delH H2 a, I1.call' (ch := []) os ⟨fun b o e n hf hx => ?_, fun b o e n hf hx => ?_, fun b o e n hx => ?_, un.there, fun b xs e => ?_, fun b o w e => ?_, fun b ps e => ?_⟩ (fun b w e => ?_) bare (fun b z => absurd z (by simp)), rv, q2⟩
      · by_cases hb : b = a
        · subst hb
          rw [P1.1] at e
          cases e
          exact ha2
        · exact un.keep b o e (up hb n) hf hx
      · have hb : b ≠ a := fun z => nstk (by rw [← z]; exact hf)
        exact un.slot b o e (up hb n) hf hx
      · by_cases hb : b = a
        · rw [hb, delH_same]
        · rw [delH_ne hb]
          exact un.free b o e (up hb n) hx
      · have hb : b ≠ a := ne_of_none e na
        rw [delH_ne hb]
        exact un.tups b xs (by rw [upd_ne hb]; exact e)
      · have hb : b ≠ a := ne_of_none e na
        rw [delH_ne hb]
        exact un.frzs b o w (by rw [upd_ne hb]; exact e)
      · have hb : b ≠ a := ne_of_none e na
        rw [delH_ne hb]
        exact un.tbls b ps (by rw [upd_ne hb]; exact e)
      · have hb : b ≠ a := fun z => by
          rw [z, delH_same] at e
          cases e
        rw [delH_ne hb] at e
        have nea : ∀ {c : Addr} {w : HO}, H2 c = some w → w ≠ exq a oe → c ≠ a := fun {c w} y ne z => by
          rw [z, ea] at y
          exact ne (Option.some.inj y).symm
        exact (hok2 b w e).stay (fun _ _ _ z => z) (fun c z => by rw [delH_ne (nea z (fun y => by unfold exq at y; cases y))]; exact z) fun c xs z => by rw [delH_ne (nea z (fun y => by unfold exq at y; cases y))]; exact z
end
/-! ### the def that asks -/
/-- what is wished of an exception of what is asked -/
def EH (X : Cx) (g : F) (cs : List Value) (Q : VK) : XK := fun cls d H => PySem.W.exmAny X.K cls cs = some true ∧ ∃ (C dd : Addr) (vs : List (Str × V)) (cd : V), cls = .ref C ∧ d = some dd ∧ H dd = some (.xd vs) ∧ XfC X.K C ∧ PySem.W.findIn X.K (.ref C) "code" = some none ∧ vs.lookup ("code" : Str) = some cd ∧
  ∀ (a p : Addr) (oe : Obj), H a = none → H p = none → p ≠ a → Zc cls d oe → (∃ fv, oe.data = .fields fv) →
    spR (gx X) g [.ref a] (upd (upd H p (.tup [.str "no", cd])) a (exq a oe)) (fun v H2 => H2 a = some (exq a oe) ∧ rCatT X.K (.ref p) v (delH H2 a) Q) fun _ _ _ => False
def TTt (X : Cx) (g : F) (cs : List Value) : (XK → Hp → VK → Prop) → Hp → VK → Prop := fun tl H Q =>
  tl (EH X g cs Q) H fun v H' => [V.str "told", v].length ≤ sizeLine ∧ ∀ p, H' p = none → Q (.ref p) (upd H' p (.tup [V.str "told", v]))
theorem told_gives {X : Cx} {Ng : List Str} {x ask n fl q x1 x2 x3 x4 : Str} {c1 c2 c3 c4 : Value} {sg : Scope} {g f : Addr} {gF : F} {cdg : Value} {k j1 j2 k1 k2 kk : Nat} {p1 p2 p3 p4 p5 p6 p7 p8 p9 p10 p11 p12 p13 p14 p15 p16 q1 q2 q3 q4 tpos : Pos}
    (hN : Ng.Nodup) (h0 : Ng[0]? = some ask) (hva : Vis sg ask) (hi : Ng[1]? = some n) (hln : sg.names.lookup n = some .local) (hvn : Vis sg n) (hst : ∀ z : Addr, (L2.start Ng [V.ref z])[0]? = some (some (V.ref z)))
    (n1 : sg.names.lookup x1 = some .globalImplicit ∧ X.mg x1 = some c1 ∧ (x1 == ("__debug__" : Str)) = false) (n2 : sg.names.lookup x2 = some .globalImplicit ∧ X.mg x2 = some c2 ∧ (x2 == ("__debug__" : Str)) = false)
    (n3 : sg.names.lookup x3 = some .globalImplicit ∧ X.mg x3 = some c3 ∧ (x3 == ("__debug__" : Str)) = false) (n4 : sg.names.lookup x4 = some .globalImplicit ∧ X.mg x4 = some c4 ∧ (x4 == ("__debug__" : Str)) = false)
    (hfl : sg.names.lookup fl = some .globalImplicit) (hm : X.mg fl = some (.ref f)) (hk : PySem.W.keepIn X.K (.ref f) = true) (Fn : FnHU X.prog X.w (gx X) X.base k f gF) (hr : Room (k + 2) X.A)
    (hdf : (fl == ("__debug__" : Str)) = false := by decide) (hdn : (n == ("__debug__" : Str)) = false := by decide) (hcn : (n == ("__classdict__" : Str)) = false := by decide) :
    LamX.GivesTo X Ng x sg g cdg [.Try [.Return (some (.Tuple [.Constant (.str "told") j1 p1, .Call (.Name ask p2) [] [] p3] k1 p4)) p5]
      [.ExceptHandler (some (.Tuple [.Name x1 q1, .Name x2 q2, .Name x3 q3, .Name x4 q4] kk tpos)) (some n) [.Return (some (.BinOp (.Tuple [.Constant (.str "no") j2 p6, .Attribute (.Name n p7) "code" p8] k2 p9) .Add (.Call (.Name fl p10) [.Name n p11] [] p12) p13)) p14] p15] [] [] p16] ask q (TTt X gF [c1, c2, c3, c4]) := by
  intro fa c' s H Q tl act hc h
  have rm : Room (k + 1) (X.A.deeper (envOfC x sg s.heap.objs.size g cdg)) := hr.deeper _
  refine ⟨_, pss_one (ps_tryT (X := (cxOf C8.CX0 X.prog X.w X.K X.mg X.base Ng x sg g cdg X.A X.stack s H C8.E0).nox) (i := 1) rfl rfl hN hi hln n1 n2 n3 n4
    (tb := fun W D σ H => ∃ Ech : XK, (∀ cls d σ' H', Ech cls d H' → W cls d σ' H') ∧ σ[0]? = some (some (.ref fa)) ∧ H c' = some (LamX.CodeO c' q) ∧ tl Ech H fun v H' => [V.str "told", v].length ≤ sizeLine ∧ ∀ p, H' p = none → D.rt (.ref p) (upd H' p (.tup [V.str "told", v])))
    (ts := fun a cls d D σ H => (1 < σ.length → σ[1]? = some (some (.ref a))) ∧ ∃ (C dd : Addr) (vs : List (Str × V)) (cd : V), cls = .ref C ∧ d = some dd ∧ H dd = some (.xd vs) ∧ XfC X.K C ∧ PySem.W.findIn X.K (.ref C) "code" = some none ∧ vs.lookup ("code" : Str) = some cd ∧
      ∀ (p : Addr) (oe : Obj), H a = none → H p = none → p ≠ a → Zc cls d oe → (∃ fv, oe.data = .fields fv) →
        spR (gx X) gF [.ref a] (upd (upd H p (.tup [.str "no", cd])) a (exq a oe)) (fun v H2 => H2 a = some (exq a oe) ∧ rCatT X.K (.ref p) v (delH H2 a) D.rt) fun _ _ _ => False)
    (fun W pn xe tk _ => ?_) (fun a oe cls d pn hz hf nb => ?_)), ?_⟩
  · refine ⟨fun pins s' σ H' D I h' => ?_⟩
    obtain ⟨Ech, hW, h1, h2, h3⟩ := h'
    have hp := act W pn xe Ech p2 p3 tk hW
    have hq := pss_one (ps_ret (pos := p5) (pe_tup (x1 := k1) (pos := p4) (pa_cons (pe_str (x := "told") (j := j1) (pos := p1)) (pa_cons hp pa_nil (by rfl)) (by rfl))))
    exact hq.run pins s' σ H' D I ⟨h1, h2, h3⟩
  · refine ⟨fun pins s' σ H' D I h' => ?_⟩
    obtain ⟨h1, C, dd, vs, cd, e1, e2, e3, T, hno, l, go⟩ := h'
    have h1 := h1 (by rw [I.len]; exact (List.getElem?_eq_some_iff.mp hi).1)
    have hv : Vis (cxOf C8.CX0 X.prog X.w X.K X.mg X.base Ng x sg g cdg X.A X.stack s H C8.E0).nox.env.scope n := hvn
    have px := pe_xf (a := a) (X := (cxOf C8.CX0 X.prog X.w X.K X.mg X.base Ng x sg g cdg X.A X.stack s H C8.E0).nox) (pn := pn) (pos := p8) T hno hz hf (pe_var (pos := p7) (i := 1) hi hv hdn hcn) (by rfl)
    have pc := pe_suite_call (Y := (cxOf C8.CX0 X.prog X.w X.K X.mg X.base Ng x sg g cdg X.A X.stack s H C8.E0).nox) (oe := oe) (pn := pn) (k := k) (g := gF) (p := p11) (q := p10) (pos := p12) Fn ⟨(rm.mono (Nat.le_succ k)).dp, (rm.mono (Nat.le_succ k)).un⟩ nb hfl hm hk hi hv hdf hdn hcn
    have hq := pss_one (ps_ret (pos := p14) (pe_op (pos := p13) op_catT (pe_tup (x1 := k2) (pos := p9) (pa_cons (pe_str (x := "no") (j := j2) (pos := p6)) (pa_cons px pa_nil (by rfl)) (by rfl))) pc))
    have na := (I.pin (a, oe) (List.mem_append_left _ List.mem_cons_self)).2.1
    refine hq.run pins s' σ H' D I ⟨.ref a, h1, rfl, e1, dd, vs, cd, e2, e3, l, (by show 2 ≤ sizeLine; rw [sizeLine_eq]; omega), fun p hp => ⟨h1, fun na2 => ?_⟩⟩
    have ne : p ≠ a := fun z => by
      rw [z, upd_same] at na2
      cases na2
    exact go p oe na hp ne hz hf
  · exact ⟨EH X gF [c1, c2, c3, c4] Q, fun cls d σ' H' ⟨hit, C, dd, vs, cd, e1, e2, e3, T, hno, l, go⟩ => ⟨hit, fun a na => ⟨fun hl => List.getElem?_set_self (by simpa using hl), C, dd, vs, cd, e1, e2, e3, T, hno, l, fun p oe na hp ne hz hf => go a p oe na hp ne hz hf⟩⟩, hst fa, hc, h⟩

/-! ### the heap behind the making of a lambda -/
theorem RlT.moveT {G : Gx} {ρ : Rho} {s : MS} {σ : L2.St} {H H' : Hp} (R : Rl G ρ s σ H) (x : Up G ρ H ρ H') (k : ∀ a o, ρ.wr a → H a = some o → noT o → H' a = some o) (kt : ∀ j q a, s.st[j]? = some (.tbl q) → ρ.ss j = some a → TabO G ρ H a q → TabO G ρ H' a q) : Rl G ρ s σ H' where
  len := R.len
  val := fun i u e => let ⟨v, h, r⟩ := R.val i u e; ⟨v, h, r.up x⟩
  own := fun i u e => let ⟨a, h, h', r⟩ := R.own i u e; ⟨a, h, h', r.up x fun o q => k a o (Rho.At.wr (.s h')) q (r.noT q)⟩
  os := R.os
  sto := fun j u e => by
    obtain ⟨a, h, r⟩ := R.sto j u e
    by_cases z : ∃ q, u = .tbl q
    · obtain ⟨q, rfl⟩ := z
      exact ⟨a, h, kt j q a e h r⟩
    · have ow := r.own fun q y => z ⟨q, y⟩
      exact ⟨a, h, (ow.up x fun o q => k a o (Rho.At.wr (.j h)) q (ow.noT q)).s⟩
  ss := R.ss
  dj := R.dj
  occ := fun a w => by
    obtain ⟨o, e, m⟩ := R.occ a w
    by_cases nt : noT o
    · exact ⟨o, k a o w e nt, m⟩
    · obtain ⟨ow, at_⟩ := Rho.wr_iff.mp w
      cases at_ with
      | s h =>
        obtain ⟨u, q⟩ := R.os _ a h
        obtain ⟨a', _, h2, ow⟩ := R.own _ u q
        rw [h] at h2; cases h2
        exact absurd (ow.noT e) nt
      | t h => rw [R.tm] at h; cases h
      | z h => exact absurd (m.2 h) nt
      | @j i _ h =>
        have hu : s.st[i]? = some (s.st[i]'(R.ss _ a h)) := List.getElem?_eq_getElem _
        obtain ⟨a', h2, r⟩ := R.sto i _ hu
        rw [h] at h2; cases h2
        by_cases z : ∃ q, s.st[i]'(R.ss _ a h) = .tbl q
        · obtain ⟨q, z⟩ := z
          rw [z] at hu r
          obtain ⟨_, ps, e', _⟩ := kt i q a hu h r
          exact ⟨_, e', trivial, fun zz => nomatch (R.dj _ _ a (.j h) (.z zz))⟩
        · exact absurd ((r.own fun q y => z ⟨q, y⟩).noT e) nt
  tm := R.tm
/-- a code object is nobody's -/
theorem code_nw {G : Gx} {ρ : Rho} {s : MS} {σ : L2.St} {H H1 : Hp} {P cc : Addr} {ps : Array Value} {q : Str} (R : Rl G ρ s σ H) (one : ∀ (j : Nat) (q : Str), s.st[j]? = some (.tbl q) → j = 0) (hP : ρ.ss 0 = some P) (k : ∀ b o, ρ.wr b → H b = some o → noT o → H1 b = some o)
    (q1 : H1 P = some (.tbl ps)) (a2 : H1 cc = some (LamX.CodeO cc q)) : ¬ ρ.wr cc := fun w => by
  obtain ⟨o, e, m⟩ := R.occ cc w
  by_cases nt : noT o
  · have y := k cc o w e nt
    rw [a2] at y
    cases y
    exact m.1
  · obtain ⟨ow, at_⟩ := Rho.wr_iff.mp w
    cases at_ with
    | s h =>
      obtain ⟨u, q⟩ := R.os _ cc h
      obtain ⟨a', _, h2, ow⟩ := R.own _ u q
      rw [h] at h2; cases h2
      exact nt (ow.noT e)
    | t h => rw [R.tm] at h; cases h
    | z h => exact nt (m.2 h)
    | @j i _ h =>
      have hu : s.st[i]? = some (s.st[i]'(R.ss _ cc h)) := List.getElem?_eq_getElem _
      obtain ⟨a', h2, r⟩ := R.sto i _ hu
      rw [h] at h2; cases h2
      by_cases z : ∃ q, s.st[i]'(R.ss _ cc h) = .tbl q
      · obtain ⟨q, z⟩ := z
        rw [z] at hu
        have zi := one i q hu
        subst zi
        rw [hP] at h; cases h
        rw [q1] at a2
        unfold LamX.CodeO at a2
        cases a2
      · exact nt ((r.own fun q y => z ⟨q, y⟩).noT e)
/-- the one table that the store holds is the first, dn's -/
def hasTb (dn : Str) (st : List U) : Bool := (match st with
  | .tbl q :: _ => decide (q = dn)
  | _ => false) && (st.drop 1).all fun u => !isTb u
theorem hasTb_ok {dn : Str} {st : List U} (h : hasTb dn st = true) : st[0]? = some (.tbl dn) ∧ (st.drop 1).all (fun u => !isTb u) = true := by
  unfold hasTb at h
  rw [Bool.and_eq_true] at h
  refine ⟨?_, h.2⟩
  have h1 := h.1
  split at h1
  · rw [of_decide_eq_true h1]; rfl
  · cases h1
theorem one_of {s : MS} (h : (s.st.drop 1).all (fun u => !isTb u) = true) (j : Nat) (q : Str) (e : s.st[j]? = some (.tbl q)) : j = 0 := by
  cases j with
  | zero => rfl
  | succ j =>
    have e2 : (s.st.drop 1)[j]? = some (.tbl q) := by rw [List.getElem?_drop, Nat.add_comm]; exact e
    have z := List.all_eq_true.mp h _ (List.mem_of_getElem? e2)
    cases z
/-- plain values -/
def pln1 : U → Bool
  | .non => true
  | .bl _ => true
  | .int _ => true
  | .str _ => true
  | _ => false
def plnU : U → Bool
  | .non => true
  | .bl _ => true
  | .int _ => true
  | .str _ => true
  | .tup us => us.all pln1
  | _ => false
theorem Rep.flat1 {G : Gx} {ρ ρ' : Rho} {H H' : Hp} {u : U} {v : V} (r : Rep G ρ H u v) (e : pln1 u = true) : Rep G ρ' H' u v := by
  cases r with
  | non => exact .non
  | bl => exact .bl
  | int => exact .int
  | str => exact .str
  | _ => cases e
theorem Reps.flat1 {G : Gx} {ρ ρ' : Rho} {H H' : Hp} : ∀ {us : List U} {vs : List V}, Reps G ρ H us vs → us.all pln1 = true → Reps G ρ' H' us vs
  | _, _, .nil, _ => .nil
  | _, _, .cons h r, e => by
    rw [List.all_cons, Bool.and_eq_true] at e
    exact .cons (h.flat1 e.1) (Reps.flat1 r e.2)
theorem Rep.flat {G : Gx} {ρ ρ' : Rho} {H H' : Hp} {u : U} {v : V} (r : Rep G ρ H u v) (e : plnU u = true) (k : ∀ b xs, H b = some (.tup xs) → ¬ ρ.wr b → H' b = some (.tup xs) ∧ ¬ ρ'.wr b) : Rep G ρ' H' u v := by
  cases r with
  | non => exact .non
  | bl => exact .bl
  | int => exact .int
  | str => exact .str
  | tup h r => exact .tup (h.imp (fun h => k _ _ h.1 h.2) id) (Reps.flat1 r e)
  | _ => cases e
theorem RepF.flat {G : Gx} {ρ ρ' : Rho} {H H' : Hp} (k : ∀ b xs, H b = some (.tup xs) → ¬ ρ.wr b → H' b = some (.tup xs) ∧ ¬ ρ'.wr b) : ∀ {us : List (Str × U)} {vs : List (Str × V)}, RepF G ρ H us vs → (us.all fun q => plnU q.2) = true → RepF G ρ' H' us vs
  | _, _, .nil, _ => .nil
  | _, _, .cons h r, e => by
    rw [List.all_cons, Bool.and_eq_true] at e
    exact .cons (h.flat e.1 k) (RepF.flat k r e.2)
theorem Reps.flat {G : Gx} {ρ ρ' : Rho} {H H' : Hp} (k : ∀ b xs, H b = some (.tup xs) → ¬ ρ.wr b → H' b = some (.tup xs) ∧ ¬ ρ'.wr b) : ∀ {us : List U} {vs : List V}, Reps G ρ H us vs → us.all plnU = true → Reps G ρ' H' us vs
  | _, _, .nil, _ => .nil
  | _, _, .cons h r, e => by
    rw [List.all_cons, Bool.and_eq_true] at e
    exact .cons (h.flat e.1 k) (Reps.flat k r e.2)
/-- the answer to an exception -/
def hdlM (gF : F) (okc : Str → Bool) (dn : Str) : U → MS → Res MS U
  | .exc c fs, s => if (okc c && fs.all (fun q => plnU q.2) && hasTb dn s.st) = true then (match fs.lookup ("code" : Str) with
    | some cd => (match gF [.exc c fs] [.tbl dn] with
      | .ok (.tup us) st => if (us.all plnU && decide (2 + us.length ≤ sizeLine) && hasTb dn st) = true then .ok (.tup (.str "no" :: cd :: us)) s else .stuck
      | _ => .stuck)
    | none => .stuck) else .stuck
  | _, _ => .stuck
def toldM (gF : F) (okc : Str → Bool) (dn : Str) (m : M U) : M U := fun s => if hasTb dn s.st = true then (match m s with
  | .ok u s' => .ok (.tup [.str "told", u]) s'
  | .err x s' => hdlM gF okc dn x s'
  | .stuck => .stuck) else .stuck
/-- exceptions that the clause takes -/
def HitE (G : Gx) (okc : Str → Bool) (cs : List Value) : Prop := ∀ c C, okc c = true → G.mg c = some (.ref C) → PySem.W.exmAny G.K (.ref C) cs = some true ∧ XfC G.K C ∧ PySem.W.findIn G.K (.ref C) "code" = some none
theorem OkF.mono {G : Gx} {ρ : Rho} {H : Hp} {r : Res (List U) U} {Q Q' : VK} {E : XK} (h : OkF G ρ H r Q E) (k : ∀ v H', Q v H' → Q' v H') : OkF G ρ H r Q' E := by
  cases r with
  | ok u st => exact fun ρ' H' v x R r => k _ _ (h ρ' H' v x R r)
  | err y st => exact h
  | stuck => exact h
/-- an exception of what was asked, answered -/
theorem hdl_run {X : Cx} {W : WX} {gF : F} {okc : Str → Bool} {dn : Str} {cs : List Value} (T : HitE (gx X) okc cs) {ρ : Rho} {s : MS} {σ : L2.St} {H : Hp} {Q : VK} {x : U} {cls : Value} {d : Option Addr} (R : Rl (gx X) ρ s σ H) (er : ExcRep (gx X) ρ H x cls d) (h : OkV X W ρ σ H (hdlM gF okc dn x s) Q) : EH X gF cs Q cls d H := by
  cases x with
  | exc c fs =>
    have h : OkV X W ρ σ H (if (okc c && fs.all (fun q => plnU q.2) && hasTb dn s.st) = true then (match fs.lookup ("code" : Str) with
      | some cd => (match gF [.exc c fs] [.tbl dn] with
        | .ok (.tup us) st => if (us.all plnU && decide (2 + us.length ≤ sizeLine) && hasTb dn st) = true then .ok (.tup (.str "no" :: cd :: us)) s else .stuck
        | _ => .stuck)
      | none => .stuck) else .stuck) Q := h
    by_cases ck : (okc c && fs.all (fun q => plnU q.2) && hasTb dn s.st) = true
    · rw [if_pos ck] at h
      rw [Bool.and_eq_true, Bool.and_eq_true] at ck
      obtain ⟨⟨hok, hflat⟩, hhas⟩ := ck
      obtain ⟨hst, hone⟩ := hasTb_ok hhas
      have one := one_of hone
      cases el : fs.lookup ("code" : Str) with
      | none => rw [el] at h; exact h.elim
      | some cd =>
        rw [el] at h
        dsimp only at h
        obtain ⟨C, mC, ecls, dd, vs, ed, hd, rf⟩ := er
        obtain ⟨t1, t2, t3⟩ := T c C hok mC
        obtain ⟨cdv, hl, rcd⟩ := rf.get el
        subst ecls
        refine ⟨t1, C, dd, vs, cdv, rfl, ed, hd, t2, t3, hl, fun a p oe na hp ne hz hf => ?_⟩
        obtain ⟨P, hP, tabP⟩ := R.sto 0 (.tbl dn) hst
        -- the heap with the tuple and the exception
        have nap : upd H p (.tup [.str "no", cdv]) a = none := by rw [upd_ne (Ne.symm ne)]; exact na
        have kH : ∀ {b : Addr} {o : HO}, H b = some o → (upd (upd H p (.tup [.str "no", cdv])) a (exq a oe)) b = some o := fun {b o} e => by rw [upd_ne (ne_of_none e na), upd_ne (ne_of_none e hp)]; exact e
        have H1p : (upd (upd H p (.tup [.str "no", cdv])) a (exq a oe)) p = some (.tup [.str "no", cdv]) := by rw [upd_ne ne, upd_same]
        have H1a : (upd (upd H p (.tup [.str "no", cdv])) a (exq a oe)) a = some (exq a oe) := upd_same
        generalize hH1 : upd (upd H p (.tup [.str "no", cdv])) a (exq a oe) = H1 at kH H1p H1a
        have back : ∀ {b : Addr} {o : HO}, H1 b = some o → b ≠ p → b ≠ a → H b = some o := fun {b o} e e1 e2 => by rw [← hH1, upd_ne e2, upd_ne e1] at e; exact e
        -- whose objects the callee may not touch
        let ρc : Rho := ⟨fun _ => none, fun j => if j = 0 then some P else none, none, fun b => ρ.wr b ∧ ∃ o, H b = some o ∧ noT o⟩
        obtain ⟨eP, ps, ePt, tri, hcodes⟩ := tabP
        have ss0 : ρc.ss 0 = some P := by
          show (if 0 = 0 then some P else none) = some P
          exact if_pos rfl
        have wrc : ∀ {b : Addr}, ρc.wr b → ρ.wr b := fun {b} w => by
          rcases w with ⟨_, w⟩ | ⟨j, w⟩ | w | w
          · cases w
          · have w : (if j = 0 then some P else none) = some b := w
            by_cases z : j = 0
            · rw [if_pos z] at w; cases w; exact Rho.At.wr (.j hP)
            · rw [if_neg z] at w; cases w
          · cases w
          · exact w.1
        have dis : ∀ {b : Addr}, ρc.Z b → b ≠ P := fun {b} z e => by
          obtain ⟨_, o, q, nt⟩ := z
          rw [e, ePt] at q; cases q; exact nt
        have Rc : Rl (gx X) ρc ⟨[], [.tbl dn]⟩ [] H1 := by
          refine ⟨rfl, fun i u e => by simp at e, fun i u e => by simp at e, fun i b e => (nomatch e), fun j u e => ?_, fun j b e => ?_, fun o o' b h1 h2 => ?_, fun b w => ?_, rfl⟩
          · have hj : j = 0 := by
              have := (List.getElem?_eq_some_iff.mp e).1
              simpa using this
            subst hj
            cases (show some (U.tbl dn) = some u from e)
            refine ⟨P, ss0, eP, ps, kH ePt, tri, fun pos cv hc => ?_⟩
            obtain ⟨cc, a1, a2, a3⟩ := hcodes pos cv hc
            exact ⟨cc, a1, kH a2, fun w => a3 (wrc w)⟩
          · have e : (if j = 0 then some P else none) = some b := e
            by_cases z : j = 0
            · rw [z]; exact Nat.one_pos
            · rw [if_neg z] at e; cases e
          · cases h1 with
            | s h => cases h
            | t h => cases h
            | @j i _ h =>
              have h : (if i = 0 then some P else none) = some b := h
              by_cases z : i = 0
              · rw [if_pos z] at h; cases h
                cases h2 with
                | s h => cases h
                | t h => cases h
                | @j i' _ h =>
                  have h : (if i' = 0 then some P else none) = some P := h
                  by_cases z' : i' = 0
                  · rw [z, z']
                  · rw [if_neg z'] at h; cases h
                | z h => exact absurd rfl (dis h)
              · rw [if_neg z] at h; cases h
            | z h =>
              cases h2 with
              | s h => cases h
              | t h => cases h
              | @j i' _ h' =>
                have h' : (if i' = 0 then some P else none) = some b := h'
                by_cases z' : i' = 0
                · rw [if_pos z'] at h'; cases h'; exact absurd rfl (dis h)
                · rw [if_neg z'] at h'; cases h'
              | z h => rfl
          · obtain ⟨o, e, m⟩ := R.occ b (wrc w)
            refine ⟨o, kH e, m.1, fun z => ?_⟩
            obtain ⟨_, o', q, nt⟩ := z
            rw [e] at q; cases q; exact nt
        have nwc : ∀ b xs, H b = some (.tup xs) → ¬ ρ.wr b → H1 b = some (.tup xs) ∧ ¬ ρc.wr b := fun b xs e n => ⟨kH e, fun w => n (wrc w)⟩
        have nwr : ∀ {b : Addr}, H b = none → ¬ ρ.wr b := fun {b} e w => by
          obtain ⟨o, q, _⟩ := R.occ b w
          rw [e] at q; cases q
        have nwx : ∀ {b : Addr} {fs : List (Str × V)}, H b = some (.xd fs) → ¬ ρ.wr b := fun {b fs} e w => by
          obtain ⟨o, q, m, _⟩ := R.occ b w
          rw [e] at q; cases q; exact m
        have rex : Rep (gx X) ρc H1 (.exc c fs) (.ref a) := .exc mC ⟨by rw [← ed]; exact hz, hf⟩ H1a (kH hd) (fun w => nwr na (wrc w)) (fun w => nwx hd (wrc w)) (RepF.flat nwc rf hflat)
        refine ⟨ρc, [.tbl dn], [.exc c fs], Rc, .cons rex .nil, ?_⟩
        cases eg : gF [.exc c fs] [.tbl dn] with
        | stuck => rw [eg] at h; exact h.elim
        | err y st => rw [eg] at h; exact h.elim
        | ok u st =>
          rw [eg] at h
          cases u with
          | tup us =>
            dsimp only at h
            by_cases c2 : (us.all plnU && decide (2 + us.length ≤ sizeLine) && hasTb dn st) = true
            · rw [if_pos c2] at h
              rw [Bool.and_eq_true, Bool.and_eq_true, decide_eq_true_eq] at c2
              obtain ⟨c2, l0⟩ := c2
              have l0 := (hasTb_ok l0).1
              intro ρ2 H2 v x2 R2 rv
              have k2 : ∀ {b : Addr} {o : HO}, H1 b = some o → ¬ ρc.wr b → noT o → Kept o (H2 b) ∧ ¬ ρ2.wr b := fun {b o} e n t => x2.keep b o e n t
              have e2a : H2 a = some (exq a oe) := (k2 H1a (fun w => nwr na (wrc w)) trivial).1.same id
              have e2p : H2 p = some (.tup [.str "no", cdv]) := (k2 H1p (fun w => nwr hp (wrc w)) trivial).1.same id
              -- the frame's state there, the exception left out
              have U1 : Up (gx X) ρ H ρ (delH H2 a) := ⟨fun b o e n t => by
                have z := k2 (kH e) (fun w => n (wrc w)) t
                rw [delH_ne (ne_of_none e na)]
                exact ⟨z.1, n⟩, fun _ _ e => e⟩
              have kz : ∀ b o, ρ.wr b → H b = some o → noT o → delH H2 a b = some o := fun b o w e t => by
                rw [delH_ne (ne_of_none e na)]
                exact x2.zk b o ⟨w, o, e, t⟩ (kH e) t
              have x1 : Ext (gx X) ρ H ρ (delH H2 a) := ⟨U1, rfl, fun b o z e t => kz b o (Rho.At.wr (.z z)) e t⟩
              have tb2 : TabO (gx X) ρ (delH H2 a) P dn := by
                have s2 := x2.ss 0 P ss0
                obtain ⟨P', hP', _, ps2, q1, q2, q3⟩ := R2.sto 0 (.tbl dn) l0
                rw [s2] at hP'; cases hP'
                refine ⟨eP, ps2, by rw [delH_ne (fun z => by rw [z, e2a] at q1; cases q1)]; exact q1, q2, fun pos cv hc => ?_⟩
                obtain ⟨cc, a1, a2, a3⟩ := q3 pos cv hc
                have nca : cc ≠ a := fun z => by
                  rw [z, e2a] at a2
                  unfold exq LamX.CodeO at a2
                  cases a2
                have a2' : delH H2 a cc = some (LamX.CodeO cc (lamN dn)) := by rw [delH_ne nca]; exact a2
                exact ⟨cc, a1, a2', code_nw R one hP kz (by rw [delH_ne (fun z => by rw [z, e2a] at q1; cases q1)]; exact q1) a2'⟩
              have R1 : Rl (gx X) ρ s σ (delH H2 a) := RlT.moveT R U1 kz fun j q b ej hb tj => by
                have zj := one j q ej
                subst zj
                rw [hst] at ej; cases ej
                rw [hP] at hb; cases hb
                exact tb2
              have nw2 : ∀ {b : Addr} {xs : List V}, delH H2 a b = some (.tup xs) → ¬ ρ.wr b := fun {b xs} e w => by
                obtain ⟨o, q, m, _⟩ := R1.occ b w
                rw [e] at q; cases q; exact m
              have kt2 : ∀ b xs, H2 b = some (.tup xs) → ¬ ρ2.wr b → delH H2 a b = some (.tup xs) ∧ ¬ ρ.wr b := fun b xs e _ => by
                have nb : b ≠ a := fun z => by rw [z, e2a] at e; cases e
                have y : delH H2 a b = some (.tup xs) := by rw [delH_ne nb]; exact e
                exact ⟨y, nw2 y⟩
              refine ⟨e2a, ?_⟩
              have rcd2 : Rep (gx X) ρ (delH H2 a) cd cdv := rcd.up U1
              have e2p' : delH H2 a p = some (.tup [.str "no", cdv]) := by rw [delH_ne ne]; exact e2p
              cases rv with
              | @tup _ q ws ht rs =>
                have rs2 : Reps (gx X) ρ (delH H2 a) us ws := Reps.flat kt2 rs c2.1
                have sq : SqT X.K (delH H2 a) q ws := by
                  rcases ht with y | ⟨_, y⟩
                  · exact .inl (.inl (kt2 _ _ y.1 y.2).1)
                  · exact .inr y
                refine ⟨p, q, [.str "no", cdv], ws, rfl, rfl, .inl (.inl e2p'), sq, (fun z => nomatch z), (by show 2 + ws.length ≤ sizeLine; rw [← rs.length]; exact c2.2), fun z => ?_, fun z r hr => ?_⟩
                · subst z
                  cases rs2
                  exact h ρ _ (.ref p) x1 R1 (.tup (.inl ⟨e2p', nw2 e2p'⟩) (.cons .str (.cons rcd2 .nil)))
                · have x3 : Ext (gx X) ρ (delH H2 a) ρ (upd (delH H2 a) r (.tup ([.str "no", cdv] ++ ws))) := R1.laidExt hr
                  have R3 := R1.laid (o := .tup ([.str "no", cdv] ++ ws)) hr
                  exact h ρ _ (.ref r) (x1.trans x3) R3 (.tup (.inl ⟨upd_same, R1.fresh hr⟩) (.cons .str (.cons (rcd2.up x3.toUp) (rs2.up x3.toUp))))
            · rw [if_neg c2] at h; exact h.elim
          | _ => exact h.elim
    · rw [if_neg ck] at h; exact h.elim
  | _ => exact h.elim

theorem Ok.later {α β : Type} {X : Cx} {W : WX} {R1 : Rho → Hp → α → β → Prop} {ρ ρ' : Rho} {σ : L2.St} {H H' : Hp} {r : Res MS α} {Q : β → Hp → Prop} (h : Ok X W R1 ρ σ H r Q) (x : Ext (gx X) ρ H ρ' H') : Ok X W R1 ρ' σ H' r Q := by
  cases r with
  | ok u s => exact fun ρ2 H2 v x2 R r => h ρ2 H2 v (x.trans x2) R r
  | err y s => exact fun ρ2 H2 c d x2 R r => h ρ2 H2 c d (x.trans x2) R r
  | stuck => exact h
/-- the reading of a lambda's body, by its mirror -/
def tM (X : Cx) (m : M U) (E : XK) : TE := fun σ H Q => ∃ ρ s, Rl (gx X) ρ s σ H ∧ OkV X (fun cls d _ H => E cls d H) ρ σ H (m s) Q
theorem se_told {X : Cx} {W : WX} {gF : F} {okc : Str → Bool} {dn x a : Str} {cs : List Value} {g c : Addr} {k : Nat} {pg : Arguments} {bg : List Stmt} {sg : Scope} {dV kV doc pm cdv ct oc : Value} {an od : Option Addr} {osl : Array (Option Value)} {Ng : List Str}
    {params : Arguments} {body : Expr} {scope : Scope} {m : M U} {p lpos pos : Pos} (T : HitE (gx X) okc cs) (hg : Gl X x) (hm : X.mg x = some (.ref g)) (hk : PySem.W.keepIn X.K (.ref g) = true)
    (lk : X.K.lookup g = some ⟨oc, od, .func (PySem.W.fnOf x x pg bg sg dV kV doc pm an cdv ct), osl⟩) (hcg : PySem.W.codeIn X.K cdv x = true) (hb : L2.Binds X.K (PySem.W.fnOf x x pg bg sg dV kV doc pm an cdv ct) [a] []) (Sg : FnScope Ng [a] sg) (hNg : Ng[0]? = some a) (hva : Vis sg a)
    (hG : LamX.GivesTo X Ng x sg g cdv bg a (X.env.qual ++ "<lambda>") (TTt X gF cs)) (TB : LamX.TabB X.base X.mg c (tabA X.K dn)) (hcode : X.env.code = .ref c) (hq : X.env.qual ++ "<lambda>" = lamN dn) (hr : Room (k + 2) X.A) (L : LamX.LamS X.env.scope scope) (hdef : defaultsOf params X.env = ([], []))
    (hbind : ∀ (q : Str) (cl : List (Str × Addr)) (pm cv ctv : Value), bindArgs (PySem.W.kla_fn "<lambda>" q params body scope cl pm cv ctv) ⟨[], []⟩ = pure [])
    (hbody : ∀ (A : Around) (outer : List Env) (s : Shared) (H : Hp) (E : XK) (f c' : Addr), Room k (A.deeper (LamX.lamEnv X scope s.heap.objs.size f c')) → SE (LamX.lamCx X A outer s H E scope f c') (fun cls d _ H => E cls d H) body m)
    (hdb : (x == ("__debug__" : Str)) = false := by decide) (hd : (a == ("__debug__" : Str)) = false := by decide) (hcd : (a == ("__classdict__" : Str)) = false := by decide) :
    SE X W (.Call (.Name x p) [.Lambda params body scope lpos] [] pos) (toldM gF okc dn m) := by
  have pe := LamX.pe_lamcall (T := [(tabA X.K dn, lamN dn)]) (p := p) (lpos := lpos) (pos := pos) (t := fun E => tM X m E) hg hm hk lk hcg hb Sg hNg hva hG TB hcode (by rw [hq]; exact List.mem_singleton.mpr rfl) (fun y hy _ => by rw [List.mem_singleton.mp hy, hq]) hr L hdef hbind
    (fun A outer s H E f c' rm => by
      obtain ⟨t, pb, hse⟩ := hbody A outer s H E f c' rm
      exact ⟨fun pins s' σ H' Q I ⟨ρ, ms, R, h⟩ => pb.run pins s' σ H' Q I (hse ρ ms σ H' Q R h)⟩) hdb hd hcd
  refine ⟨_, pe, fun ρ s σ H Q R h => ?_⟩
  unfold toldM at h
  by_cases ck : hasTb dn s.st = true
  · rw [if_pos ck] at h
    have ck := hasTb_ok ck
    have one := one_of ck.2
    obtain ⟨P, hP, eP, ps, ePt, tri, hcodes⟩ := R.sto 0 (.tbl dn) ck.1
    have tabs : LamX.Tabs [(tabA X.K dn, lamN dn)] H := fun y hy => by
      rw [List.mem_singleton.mp hy]
      refine ⟨ps, by rw [← eP]; exact ePt, tri, fun pos cv hc => ?_⟩
      obtain ⟨cc, a1, a2, _⟩ := hcodes pos cv hc
      exact ⟨cc, a1, a2⟩
    refine ⟨tabs, fun H1 eN T1 => ?_⟩
    have kk : ∀ b o, H b = some o → noT o → H1 b = some o := fun b o e t => eN b o e fun ps z => by rw [z] at t; exact t
    have U1 : Up (gx X) ρ H ρ H1 := ⟨fun b o e n t => ⟨.inl (kk b o e t), n⟩, fun _ _ e => e⟩
    have kz : ∀ b o, ρ.wr b → H b = some o → noT o → H1 b = some o := fun b o _ e t => kk b o e t
    have x1 : Ext (gx X) ρ H ρ H1 := ⟨U1, rfl, fun b o _ e t => kk b o e t⟩
    have R1 : Rl (gx X) ρ s σ H1 := RlT.moveT R U1 kz fun j q b ej hb tj => by
      have zj := one j q ej
      subst zj
      rw [ck.1] at ej; cases ej
      rw [hP] at hb; cases hb
      obtain ⟨ps1, h1, tri1, codes1⟩ := T1 _ (List.mem_singleton.mpr rfl)
      have h1 : H1 P = some (.tbl ps1) := by rw [eP]; exact h1
      refine ⟨eP, ps1, h1, tri1, fun pos cv hc => ?_⟩
      obtain ⟨cc, a1, a2⟩ := codes1 pos cv hc
      exact ⟨cc, a1, a2, code_nw R one hP kz h1 a2⟩
    show tM X m (EH X gF cs Q) σ H1 _
    refine ⟨ρ, s, R1, ?_⟩
    cases em : m s with
    | stuck => rw [em] at h; exact h.elim
    | ok u s' =>
      rw [em] at h
      intro ρ' H' v x' R' rv
      refine ⟨by show 2 ≤ sizeLine; rw [sizeLine_eq]; omega, fun pp hp => ?_⟩
      have x3 : Ext (gx X) ρ' H' ρ' (upd H' pp (.tup [V.str "told", v])) := R'.laidExt hp
      exact h ρ' _ (.ref pp) ((x1.trans x').trans x3) (R'.laid hp) (.tup (.inl ⟨upd_same, R'.fresh hp⟩) (.cons .str (.cons (rv.up x3.toUp) .nil)))
    | err y s' =>
      rw [em] at h
      intro ρ' H' cls d x' R' er
      have h : OkV X W ρ σ H (hdlM gF okc dn y s') Q := h
      exact hdl_run T R' er (Ok.later h (x1.trans x'))
  · rw [if_neg ck] at h; exact h.elim
end Mi

/-! Mini XH: the head and the end of a law with lambdas. -/
namespace Mi
open PySem PySem.Spec PyProof.Rows L2
def codeOf (K : PySem.W.Frag) (f : Addr) : Value := match K.lookup f with
  | some ⟨_, _, .func fd, _⟩ => fd.code
  | _ => .none
/-- a def's body, its code told -/
theorem fnMT {P : Program} {w : World} {G : Gx} {base : Heap} {x qual : Str} {params : Arguments} {body : List Stmt} {scope : Scope} {dvs : List V} {kws : List (Str × V)} {f : Addr} {fd : FuncData} {N ps : List Str} {k : Nat} {m : Sm}
    (Fd : FunD G.K x qual params body scope dvs kws f fd) (S : FnScope N ps scope)
    (hb : ∀ (A : Around) (outer : List Env) (s : Shared) (H : Hp) (E : XK), Room k (A.deeper (envOfC qual scope s.heap.objs.size f (codeOf G.K f))) →
      SSs (cxOf (L2.CX P w) P w G.K G.mg base N qual scope f (codeOf G.K f) A outer s H E) (fun cls d _ H => E cls d H) body m) : FnM P w G base (k + 1) f fd ps (mkF N.length m) := by
  obtain ⟨oc, od, dV, kV, doc, pm, an, cdv, ct, osl, rfl, lk, hcd, _, _⟩ := Fd.ex
  have e : codeOf G.K f = cdv := by
    unfold codeOf
    rw [lk]
  rw [e] at hb
  refine fn_of lk hcd S (fun vs H Q E h => h.1) fun A outer s H vs Q E hr h => ?_
  obtain ⟨t, p, q⟩ := hb A outer s H E hr
  refine ⟨t, p, ?_⟩
  obtain ⟨hl, ρ, st, us, R, r, h⟩ := h
  refine q ρ _ _ H _ (rl_start (N := N) R r) ?_
  unfold mkF at h
  cases z : m ⟨us.map Sl.val ++ List.replicate (N.length - us.length) Sl.no, st⟩ with
  | ok fl s' =>
    rw [z] at h
    cases fl with
    | nx => exact fun ρ' σ' H' x R' => let ⟨R2, x2⟩ := rl_end (ρ' := ρ') (H' := H') R'; h _ H' .non (x.trans x2) R2 .non
    | rt u => exact fun ρ' σ' H' v x R' r' => let ⟨R2, x2⟩ := rl_end (ρ' := ρ') (H' := H') R'; h _ H' v (x.trans x2) R2 (r'.up x2.toUp)
    | bk => exact h.elim
    | ct => exact h.elim
  | err y s' =>
    rw [z] at h
    exact fun ρ' σ' H' cls d x R' r' => let ⟨R2, x2⟩ := rl_end (ρ' := ρ') (H' := H') R'; h _ H' cls d (x.trans x2) R2 (r'.up x2.toUp fun _ _ _ e => e)
  | stuck => rw [z] at h; exact h.elim
/-- told, by the asking def's FunD -/
theorem se_toldD {X : Cx} {W : WX} {gF : F} {okc : Str → Bool} {dn x a : Str} {cs : List Value} {g c : Addr} {k : Nat} {pg : Arguments} {bg : List Stmt} {sg : Scope} {fd : FuncData} {Ng : List Str}
    {params : Arguments} {body : Expr} {scope : Scope} {m : M U} {p lpos pos : Pos} (T : HitE (gx X) okc cs) (hg : Gl X x) (hm : X.mg x = some (.ref g)) (Fd : FunD X.K x x pg bg sg [] [] g fd) (hb : L2.Binds X.K fd [a] []) (Sg : FnScope Ng [a] sg) (hNg : Ng[0]? = some a) (hva : Vis sg a)
    (hG : ∀ cdv, LamX.GivesTo X Ng x sg g cdv bg a (X.env.qual ++ "<lambda>") (TTt X gF cs)) (TB : LamX.TabB X.base X.mg c (tabA X.K dn)) (hcode : X.env.code = .ref c) (hq : X.env.qual ++ "<lambda>" = lamN dn) (hr : Room (k + 2) X.A) (L : LamX.LamS X.env.scope scope) (hdef : defaultsOf params X.env = ([], []))
    (hbind : ∀ (q : Str) (cl : List (Str × Addr)) (pm cv ctv : Value), bindArgs (PySem.W.kla_fn "<lambda>" q params body scope cl pm cv ctv) ⟨[], []⟩ = pure [])
    (hbody : ∀ (A : Around) (outer : List Env) (s : Shared) (H : Hp) (E : XK) (f c' : Addr), Room k (A.deeper (LamX.lamEnv X scope s.heap.objs.size f c')) → SE (LamX.lamCx X A outer s H E scope f c') (fun cls d _ H => E cls d H) body m)
    (hdb : (x == ("__debug__" : Str)) = false := by decide) (hd : (a == ("__debug__" : Str)) = false := by decide) (hcd : (a == ("__classdict__" : Str)) = false := by decide) :
    SE X W (.Call (.Name x p) [.Lambda params body scope lpos] [] pos) (toldM gF okc dn m) := by
  have kp := Fd.kp
  obtain ⟨oc, od, dV, kV, doc, pm, an, cdv, ct, osl, rfl, lk, hcg, _, _⟩ := Fd.ex
  exact se_told T hg hm kp lk hcg hb Sg hNg hva (hG cdv) TB hcode hq hr L hdef hbind hbody hdb hd hcd
/-! ### the head's facts -/
/-- the def x's code: its head, its table (empty, not of the written part) -/
def tabB (x : Str) (K : PySem.W.Frag) : Bool := match codeOf K (He.ga K x) with
  | .ref c => (match K.lookup c with
    | some ⟨.type t, _, .fields vs, _⟩ => t == "code" && ((match (vs[11]? : Option Value) with
        | some (.ref P) => decide (P = tabA K x) && decide (c ≠ P) && (K.lookup P).isNone
        | _ => false) && ((match vs.getD 18 .none with
        | .str _ _ => true
        | _ => false) && ((match vs.getD 7 .none with
        | .int _ _ => true
        | _ => false) && ((match vs.getD 9 .none with
        | .bool _ => true
        | _ => false) && (match vs.getD 10 .none with
        | .int _ _ => true
        | _ => false)))))
    | _ => false)
  | _ => false
theorem tabB_ok {x : Str} {K : PySem.W.Frag} {h : Heap} (X : K.In h) (e : tabB x K = true) : ∃ c, codeOf K (He.ga K x) = .ref c ∧ PySem.W.CodeHd h c (tabA K x) ∧ K.lookup (tabA K x) = none := by
  unfold tabB at e
  split at e
  · rename_i c ec
    split at e
    · rename_i t dd vs sl lk
      simp only [Bool.and_eq_true] at e
      obtain ⟨e0, e1, e2, e3, e4, e5⟩ := e
      split at e1
      · rename_i P e11
        simp only [Bool.and_eq_true, decide_eq_true_eq] at e1
        obtain ⟨⟨rfl, ne⟩, hn⟩ := e1
        split at e2
        · rename_i f tf g2
          split at e3
          · rename_i fl tg g3
            split at e4
            · rename_i inF g4
              split at e5
              · rename_i tx tt g5
                have ht : t = "code" := by simpa using e0
                subst ht
                refine ⟨c, ec, ⟨_, vs, f, tf, fl, tg, inF, tx, tt, X _ _ lk, rfl, rfl, e11, ?_, g2, g3, g4, g5, ne⟩, Option.isNone_iff_eq_none.mp hn⟩
                rw [Array.getD_eq_getD_getElem?, e11] <;> rfl
              · cases e5
            · cases e4
          · cases e3
        · cases e2
      · cases e1
    · cases e
  · cases e
/-- a hook that tells of empty tables too -/
def obsT (ns : List Str) (n : Nat) (own : List (PySem.W.Frag → Bool)) (fn : List DefU) (tabs : List Str) (g : Addr → Option Obj) : Bool × AlU := (tabs.all fun x => isTab0 g (tabA (He.frG g (asU g ns n)) x), obsK own fn (He.frG g (asU g ns n)))
theorem isTab0_ok {g : Addr → Option Obj} {a : Addr} (h : isTab0 g a = true) : g a = some { cls := .none, data := .fields #[] } := by
  unfold isTab0 at h
  split at h
  · rename_i ps sl e
    rw [Bool.and_eq_true, Array.isEmpty_iff, Array.isEmpty_iff] at h
    obtain ⟨rfl, rfl⟩ := h
    exact e
  · cases h
def hookT (ns : List Str) (n : Nat) (own : List (PySem.W.Frag → Bool)) (fn : List DefU) (tabs : List Str) : PySem.W.Hook where
  α := Bool × AlU
  obs := fun s => obsT ns n own fn tabs s.heap.get?
  val := fun _ => (true, valU fn)
  says := fun _ h => ∃ K : PySem.W.Frag, K.In h ∧ SaysU own fn K ∧ ∀ x ∈ tabs, h.get? (tabA K x) = some { cls := .none, data := .fields #[] }
  of := fun _ h e => by
    have e0 : obsT ns n own fn tabs h.heap.get? = (true, valU fn) := e
    have e1 : (obsT ns n own fn tabs h.heap.get?).1 = true := by rw [e0]
    have e2 : (obsT ns n own fn tabs h.heap.get?).2 = valU fn := by rw [e0]
    exact ⟨He.frG h.heap.get? (asU h.heap.get? ns n), He.frG_in, e2, fun x hx => isTab0_ok (List.all_eq_true.mp e1 x hx)⟩
  keeps := fun _ _ _ ⟨K, hK, c, t⟩ k => ⟨K, PySem.W.Frag.In.keeps hK k, c, fun x hx => k _ _ (t x hx)⟩
theorem obsT_eq {ns : List Str} {n : Nat} {own : List (PySem.W.Frag → Bool)} {fn : List DefU} {tabs : List Str} {g : Addr → Option Obj} {s : Shared} (h : ∀ a, g a = s.heap.get? a) : @Eq (Bool × AlU) (obsT ns n own fn tabs g) ((hookT ns n own fn tabs).obs s) := by
  have e : g = s.heap.get? := funext h
  rw [e] <;> rfl
/-! ### the law's start -/
theorem script_repT {G : Gx} {H : Hp} {a : Addr} {ns : List Int} {x : Str} (h : SqL G.K H a (ns.map V.int)) (ht : H (tabA G.K x) = some (.tbl #[])) : ∃ ρ, Rl G ρ ⟨[], [.tbl x]⟩ [] H ∧ Reps G ρ H [.kl (ns.map U.int)] [.ref a] := by
  let ρ : Rho := ⟨fun _ => none, fun j => if j = 0 then some (tabA G.K x) else none, none, fun _ => False⟩
  have ss0 : ρ.ss 0 = some (tabA G.K x) := by
    show (if 0 = 0 then some (tabA G.K x) else none) = some (tabA G.K x)
    exact if_pos rfl
  have wr : ∀ {b}, ρ.wr b → b = tabA G.K x := fun {b} w => by
    rcases w with ⟨_, w⟩ | ⟨j, w⟩ | w | w
    · cases w
    · have w : (if j = 0 then some (tabA G.K x) else none) = some b := w
      by_cases z : j = 0
      · rw [if_pos z] at w; cases w; rfl
      · rw [if_neg z] at w; cases w
    · cases w
    · exact w.elim
  have s0 : ∀ {j b}, ρ.ss j = some b → j = 0 ∧ b = tabA G.K x := fun {j b} e => by
    have e : (if j = 0 then some (tabA G.K x) else none) = some b := e
    by_cases z : j = 0
    · rw [if_pos z] at e; cases e; exact ⟨z, rfl⟩
    · rw [if_neg z] at e; cases e
  refine ⟨ρ, ⟨rfl, fun i u e => by simp at e, fun i u e => by simp at e, fun i b e => (nomatch e), fun j u e => ?_, fun j b e => ?_, fun o o' b h1 h2 => ?_, fun b w => ?_, rfl⟩, .cons (.kl ?_ (ints_rep ns)) .nil⟩
  · have hj : j = 0 := by
      have := (List.getElem?_eq_some_iff.mp e).1
      simpa using this
    subst hj
    cases (show some (U.tbl x) = some u from e)
    exact ⟨_, ss0, rfl, #[], ht, trivial, fun pos cv hc => by simp [codeAmong] at hc⟩
  · rw [(s0 e).1]; exact Nat.one_pos
  · cases h1 with
    | s h => cases h
    | t h => cases h
    | z h => exact h.elim
    | j h1 =>
      cases h2 with
      | s h => cases h
      | t h => cases h
      | z h => exact h.elim
      | j h2 => rw [(s0 h1).1, (s0 h2).1]
  · exact ⟨.tbl #[], by rw [wr w]; exact ht, trivial, fun z => z.elim⟩
  · rcases h with h | h
    · refine .inl ⟨h, fun w => ?_⟩
      rw [wr w] at h
      rcases h with h | ⟨_, h⟩
      · rw [ht] at h; cases h
      · rw [ht] at h; cases h
    · exact .inr h
theorem law_spT {G : Gx} {m : F} {ns : List Int} {H : Hp} {a : Addr} {st : List U} {x : Str} (h : SqL G.K H a (ns.map V.int)) (ht : H (tabA G.K x) = some (.tbl #[])) (e : m [.kl (ns.map U.int)] [.tbl x] = .ok (.bl true) st) : spF G 1 m [.ref a] H (fun v _ => v = .bl true) fun _ _ _ => False := by
  obtain ⟨ρ, R, r⟩ := script_repT h ht
  refine ⟨rfl, ρ, [.tbl x], _, R, r, ?_⟩
  rw [e]
  intro ρ' H' v x R' rv
  cases rv; rfl
/-! ### the end -/
theorem walk_ofT {l : PySem.W.OpenLaw} {n k : Nat} {q : Program} {loose : List Str} {XP : (Str → Option Value) → Heap → Prop} {YP : World → Heap → Prop} {d : DefRec} {x : Str} (hn : l.most = some n) (hn2 : n ≤ sizeLine) (hdf : d.params.defaults = []) (hr : Room k callerA)
    (F : ∀ (w : World) (mg : Str → Option Value) (fa : Addr) (h : Heap), YP w h → h.Ns mainGlobals mg → mg d.name = some (.ref fa) → ∃ K : PySem.W.Frag, K.In h ∧ LamX.LawAtS l w K L2.CX0 k n x mg fa h) :
    PySem.W.WalkO q loose XP YP l.row.toRowW d [] (fun f vs => PySem.call f vs) := by
  refine Att.attach_callB hn hdf fun w s₀ s₁ mg mb fa o pm cd doc a vs ns G Y ho hd hcd hmg hobj hints hlen hbits hg => ?_
  obtain ⟨K, KX, fd, cs, sp, e1, e2, e3, e4, e5, e6⟩ := F w mg fa _ Y G.T.g hmg
  exact LamX.law_callTs KX G.T.g G.T.b G.T.builtins G.T.nolimit hg e1 e2 e3 G.T.bmain hobj hints (Nat.le_trans hlen hn2) hr e6 e4 (fun H hH hS => e5 H a ns hlen hbits hH hS) fun _ _ _ z => z
end Mi
namespace Mi
open PySem PySem.Spec PyProof.Rows L2
theorem FnHU.mono {P : Program} {w : World} {G : Gx} {base : Heap} {j k : Nat} {f : Addr} {g : F} (h : FnHU P w G base j f g) (l : j ≤ k) : FnHU P w G base k f g := fun A outer s H us vs Q E hr e0 r hs => h A outer s H us vs Q E (hr.mono l) e0 r hs
/-- an exception's fields may be read -/
def xB (c : Str) (fs : List Str) (K : PySem.W.Frag) : Bool := xfB K (He.ga K c) && fs.all fun f => He.eqO (PySem.W.findIn K (.ref (He.ga K c)) f) (some none)
theorem xB_ok {c : Str} {fs : List Str} {K : PySem.W.Frag} (h : xB c fs K = true) {f : Str} (hf : f ∈ fs) : XfC K (He.ga K c) ∧ PySem.W.findIn K (.ref (He.ga K c)) f = some none := by
  unfold xB at h
  rw [Bool.and_eq_true] at h
  exact ⟨xfB_ok h.1, He.eqO_ok (List.all_eq_true.mp h.2 f hf)⟩
/-- the clause takes it -/
def hitB (c : Str) (K : PySem.W.Frag) : Bool := decide (PySem.W.exmAny K (.ref (He.ga K c)) [.ref (He.ga K "BrimError"), .ref (He.ga K "UnknownCell"), .ref (He.ga K "UnknownName"), .ref (He.ga K "NothingLeft")] = some true)
theorem hitB_ok {c : Str} {fs : List Str} {K : PySem.W.Frag} (h : hitB c K = true) (hx : xB c ("code" :: fs) K = true) : PySem.W.exmAny K (.ref (He.ga K c)) [.ref (He.ga K "BrimError"), .ref (He.ga K "UnknownCell"), .ref (He.ga K "UnknownName"), .ref (He.ga K "NothingLeft")] = some true ∧ XfC K (He.ga K c) ∧ PySem.W.findIn K (.ref (He.ga K c)) "code" = some none :=
  ⟨of_decide_eq_true h, xB_ok hx (List.mem_cons_self ..)⟩
end Mi

/-! a comprehension whose element may raise -/
namespace Mx
open PySem PySem.Spec PyProof.Rows L2
section
variable {M : Model} {A : Around} {E : Value → Shared → Prop} {s : Shared} {Z : Obj → Prop} {base : Heap} {env : Env} {outer l : List Env} {L e : Addr}
/-- noted by this frame, its flight at another place -/
theorem note_other {fl : Value} {Q : Unit → Shared → Prop} (hZ : HandSPX.Steady Z) (hfr : A.frames = some (env :: outer)) (hf : env.frame = some L) (hh : base.StaysIn s.heap ∧ base.get? e = none ∧ s.heap.FunFrames base (env :: outer) ∧ HandSPX.TracedZ s.heap base e Z fl) (hne : (fl == rawInt L) = false)
    (hQ : ∀ h', HandSPX.HeldZ base (env :: outer) e Z L h' → s.heap.UpToSlots h' → Q () { s with heap := h' }) : wpAny M A (noteFrame (.ref e) env) Q E s := by
  obtain ⟨kb, en, fl0, o, fs, tb, ot, tf, g, z, dd, d1, nt, te, gt, dt, d3⟩ := hh
  unfold noteFrame
  simp only [hf]
  have keep : ∀ b, b ≠ tb → (s.heap.update tb (Obj.mapFields (·.setIfInBounds 3 Value.none))).get? b = s.heap.get? b := fun b n => Heap.get?_update_other _ _ (Ne.symm n)
  have plain : ∀ b o, s.heap.get? b = some o → (∀ vs, o.data ≠ .fields vs) → b ≠ tb := fun b o hb n q => n tf (by rw [q, gt] at hb; cases hb; exact dt)
  refine wpAny_bind (wpAny_field g dd d1 ?_)
  rw [if_pos (show (Value.ref tb != Value.none) = true by simp)]
  refine wpAny_bind (wpAny_field gt dt d3 ?_)
  rw [if_neg (by rw [hne]; exact Bool.false_ne_true)]
  refine wpAny_bind (wpAny_setField gt dt (Array.getElem?_eq_some_iff.mp d3).1 ?_)
  refine HandSPX.wpAny_entryZ hZ hfr (fl0.of_keeps fun b o hb n => ⟨o, (keep b (plain b o hb n)).trans hb, rfl⟩) hf ((keep e (Ne.symm te)).trans g) (fun b o hb => (keep b fun q => by rw [q, nt] at hb; cases hb).trans (kb b o hb)) en dd (Array.getElem?_eq_some_iff.mp d1).1 z fun h' N => ?_
  exact hQ h' ⟨N.1, en, N.2.1, N.2.2.1⟩ fun b o hb n => N.2.2.2 b o ((keep b (plain b o hb n)).trans hb) n
end
theorem raw_ne {a b : Addr} (h : a ≠ b) : (rawInt a == rawInt b) = false := by
  rw [beq_eq_false_iff_ne]
  intro e
  unfold rawInt at e
  injection e with e
  exact h (Int.ofNat.inj e)
theorem ns_slots {h h' : Heap} {C : Addr} {m : Str → Option Value} (n : h.Ns C m) (k : h.UpToSlots h') : h'.Ns C m := PySem.Heap.Ns.upToSlots n k
section
variable {X : Cx} {W : WX} {pins : List (Addr × Obj)} {σ : L2.St} {H : Hp} {s : Shared}
/-- what leaves a block's code is in the def's air -/
theorem blk_takes {scope : Scope} {cl : List (Str × Addr)} {fp : List Addr} {F : Value → Shared → Prop} (tk : Takes X W) (hW : ∀ cls d σ σ' H, W cls d σ H → W cls d σ' H) (hst : X.stack = X.env :: X.outer) (hfr : X.env.frame = some X.env.locals)
    (I : Inv X pins σ H s) (hfp : ∀ b ∈ fp, FpOk X pins H b) (hF : ∀ e s', CompFails (model X.prog X.w) X.A X.xe (compEnvC scope cl s.heap.objs.size X.env) e s' → F e s') :
    Takes ((X.blk s H scope (compEnvC scope cl s.heap.objs.size X.env) fp).wish (notedBy (model X.prog X.w) X.A (compEnvC scope cl s.heap.objs.size X.env) F)) W := by
  rintro u s' ⟨a, B, sI, pins', σ', H', cls, d, rfl, IB, nb, up, sky, na, os, ag, w⟩
  generalize hce : compEnvC scope cl s.heap.objs.size X.env = ce at IB sky hF ⊢
  have cL : ce.locals = s.heap.objs.size := by rw [← hce]; rfl
  have cF : ce.frame = X.env.frame := by rw [← hce]; rfl
  generalize hC : s.heap.objs.size = C at cL
  have IB := IB.unwish
  have nC : H' C = none := by rw [← cL]; exact IB.free
  have sky : Sky B (X.env :: X.outer) a (Zc cls d) ce.locals s'.heap := by rw [← hst]; exact sky
  rw [cL] at sky
  obtain ⟨mC, hns, _⟩ := IB.loc
  have hns : sI.heap.Ns ce.locals mC := hns
  rw [cL] at hns
  have frs_ : X.A.frames = some (X.env :: X.outer) := by rw [I.ok.frames, hst]
  have nCL : C ≠ X.env.locals := by
    intro z
    obtain ⟨m, ⟨o, _, _, ho, _⟩, _⟩ := I.loc
    have := Heap.lt_size ho
    rw [← z, ← hC] at this
    exact Nat.lt_irrefl _ this
  have nCf : C ∉ frs X.stack := fun hm => by
    obtain ⟨_, o, ho, _⟩ := I.stack.mem hm
    have := Heap.lt_size ho
    rw [hC] at this
    exact Nat.lt_irrefl _ this
  -- behind the note
  have fin : ∀ h1, HandSPX.HeldZ B (X.env :: X.outer) a (Zc cls d) X.env.locals h1 → s'.heap.UpToSlots h1 → F (.ref a) { s' with heap := h1 } := fun h1 hh up1 => by
    refine hF _ _ ⟨mC, by rw [cL]; exact ns_slots hns (up.trans up1), fun h2 m2 n2 sb => ?_⟩
    rw [cL] at n2 sb
    obtain ⟨hb, he, hff, ht⟩ := hh
    have gB : ∀ b o, (PySem.W.hideAll B [C]).get? b = some o → B.get? b = some o ∧ b ≠ C := fun b o e => ⟨PySem.W.of_hideAll _ e, fun z => by rw [z, PySem.W.hideAll_none [C] (.head _)] at e; cases e⟩
    have stay : (PySem.W.hideAll B [C]).StaysIn h2 := fun b o e => (sb.2 b (gB b o e).2).trans (hb b o (gB b o e).1)
    have none_ : ∀ b, B.get? b = none → (PySem.W.hideAll B [C]).get? b = none := fun b e => by
      cases q : (PySem.W.hideAll B [C]).get? b with
      | none => rfl
      | some o => rw [(gB b o q).1] at e; cases e
    have ff : h2.FunFrames (PySem.W.hideAll B [C]) (X.env :: X.outer) := by
      refine Heap.FunFrames.sameBut sb n2 (funFrames_none hff fun b hb => none_ b ?_)
      exact (hff.mem hb).1
    have notC : ∀ b o vs, h1.get? b = some o → o.data = .fields vs → b ≠ C := fun b o vs e dd z => by
      obtain ⟨oC, _, _, hoC, hdC, _⟩ := ns_slots hns (up.trans up1)
      rw [z, hoC] at e
      cases e
      rw [hdC] at dd
      cases dd
    have tr : HandSPX.TracedZ h2 (PySem.W.hideAll B [C]) a (Zc cls d) (rawInt X.env.locals) := by
      obtain ⟨o, fs, tb, ot, tf, g, z, dd, d1, nt, te, gt, dt, d3⟩ := ht
      exact ⟨o, fs, tb, ot, tf, (sb.2 a (notC a o fs g dd)).trans g, z, dd, d1, none_ _ nt, te, (sb.2 tb (notC tb ot tf gt dt)).trans gt, dt, d3⟩
    unfold PySem.passOn
    obtain ⟨o, fs, tb, ot, tf, g, z, dd, d1, nt, te, gt, dt, d3⟩ := tr
    refine wpAny_bind (wpAny_field g dd d1 ?_)
    rw [if_neg (show ¬ ((Value.ref tb == Value.none) = true) from by simp)]
    rw [cF, hfr]
    refine wpAny_bind (HandSPX.setFlight_onZ (L := X.env.locals) (l := X.env :: X.outer) (Z := Zc cls d) (base := PySem.W.hideAll B [C]) ⟨stay, none_ _ he, ff, o, fs, tb, ot, tf, g, z, dd, d1, nt, te, gt, dt, d3⟩ fun h3 held up3 => ?_)
    refine wpAny_throw (tk _ _ ?_)
    have gI : ∀ b o, (PySem.W.hideAll sI.heap [C]).get? b = some o → sI.heap.get? b = some o ∧ b ≠ C := fun b o e => ⟨PySem.W.of_hideAll _ e, fun z => by rw [z, PySem.W.hideAll_none [C] (.head _)] at e; cases e⟩
    have hid : ∀ {b o}, sI.heap.get? b = some o → b ≠ C → (PySem.W.hideAll sI.heap [C]).get? b = some o := fun {b o} e n => PySem.W.hideAll_get _ e fun z => n (List.mem_singleton.mp z)
    have hlt : ∀ {b o}, s.heap.get? b = some o → b ≠ C := fun {b o} e z => by
      have := Heap.lt_size e
      rw [z, hC] at this
      exact Nat.lt_irrefl _ this
    have ub : Un (frs X.stack) fp H H' s.heap (PySem.W.hideAll sI.heap [C]) := by
      have u := IB.base
      refine ⟨fun b o e n h1 h2 => hid (u.keep b o e n h1 h2) (hlt e), fun b o e n h1 h2 => ?_, u.free, fun b o e h => ?_, u.tups, u.frzs, u.tbls⟩
      · obtain ⟨sl, q⟩ := u.slot b o e n h1 h2
        exact ⟨sl, hid q (hlt e)⟩
      · obtain ⟨o', q⟩ := u.there b o e h
        exact ⟨o', hid q (hlt e)⟩
    have hok : HOk X.prog X.w H' (PySem.W.hideAll sI.heap [C]) := fun b o q => (IB.hok b o q).stay (fun c u hc r => hid r fun z => by
      rcases hc with hc | hc
      · rw [← hc, z, nC] at q; cases q
      · rw [z, nC] at hc; cases hc) (fun _ r => r) fun _ _ r => r
    refine ⟨a, PySem.W.hideAll B [C], { sI with heap := PySem.W.hideAll sI.heap [C] }, pins, σ, H', cls, d, rfl, ?_, fun b o e n => ?_, fun b o e n => ?_, .inr (.inr (by rw [hst]; exact held)), na, os, ag, hW _ _ _ _ _ w⟩
    · exact I.call' (ch := fp) IB.os ub hok IB.bare fun b hb => ⟨(hfp b hb).2.2.2.1, (hfp b hb).2.1, (hfp b hb).2.2.2.2.1, (hfp b hb).2.2.2.2.2⟩
    · obtain ⟨e1, e2⟩ := gI b o e
      exact PySem.W.hideAll_get _ (nb b o e1 n) fun z => e2 (List.mem_singleton.mp z)
    · obtain ⟨e1, e2⟩ := gI b o e
      obtain ⟨sl, q⟩ := (up.trans up1) b o e1 n
      obtain ⟨sl2, q2⟩ := up3 b _ ((sb.2 b e2).trans q) n
      exact ⟨sl2, q2⟩
  show wpAny _ _ (noteFrame (.ref a) ce) _ _ _
  rw [noteFrame_env _ cF]
  rcases sky with ⟨h0, h1, h2, oe, vs, he, hz, hd, h3⟩ | fl | hh
  · exact HandSPX.look_newZ Zc.steady frs_ h2 hfr he h0 h1 hd h3 hz fin
  · exact HandSPX.looks_onZ Zc.steady frs_ hfr fl fin
  · exact note_other Zc.steady frs_ hfr hh (raw_ne nCL) fin
end
end Mx
namespace Mx
open PySem PySem.Spec PyProof.Rows L2
section
variable {X : Cx} {W : WX}
/-- an element over every context of the block, its exceptions taken -/
def PEw (X : Cx) (W : WX) (scope : Scope) (elt : Expr) (te : TE) : Prop := ∀ (s : Shared) (H : Hp) (C : Addr) (cl : List (Str × Addr)) (fp : List Addr) (E : Value → Shared → Prop), Takes ((X.blk s H scope (compEnvC scope cl C X.env) fp).wish E) W → PE ((X.blk s H scope (compEnvC scope cl C X.env) fp).wish E) elt te
theorem lcw_core {pins : List (Addr × Obj)} {s : Shared} {σ : L2.St} {H : Hp} {Q : VK} {elt tg iter : Expr} {ifs : List Expr} {scope : Scope} {own : List (Str × Nat)} {pos pos' : Pos} {wi : TI} {g : TG} {tt : TT} {te : TE} {use : Option (Value → Sem Unit)} {Qf : Value → Shared → Prop}
    (tk : Takes X W) (hW : ∀ cls d σ σ' H, W cls d σ H → W cls d σ' H) (hst : X.stack = X.env :: X.outer) (hfr : X.env.frame = some X.env.locals) (hc : X.calm = true) (hN : X.N.Nodup) (I : Inv X pins σ H s) (hi : PI X tg iter wi) (ok : BlkOk X.N X.env.scope scope own)
    (hg : ∀ (s : Shared) (H : Hp) (C : Addr) (cl : List (Str × Addr)) (fp : List Addr), PG (X.blk s H scope (compEnvC scope cl C X.env) fp) tg g)
    (ht : ∀ (s : Shared) (H : Hp) (C : Addr) (cl : List (Str × Addr)) (fp : List Addr), PTs (X.blk s H scope (compEnvC scope cl C X.env) fp) ifs tt)
    (he : PEw X W scope elt te) (hs : ∀ x, foldedSetIterable iter X.env x = pure x) (h : tLc wi g tt te (own.map (·.2)) σ H Q)
    (fin : ∀ (D : Addr) (ce : Env) s' m H', Inv X pins σ H' s' → Q (.ref D) H' → s'.heap.Ns ce.locals m → FpOk X pins H' ce.locals → compEnds (model X.prog X.w) X.A X.xe use Qf (.ref D) ce (.ok .next) s') :
    wpAny (model X.prog X.w) X.A (comprehension (.ListComp elt [⟨tg, iter, ifs, 0⟩] scope pos) scope X.env pos' (newList []) false (eval iter X.env) use) Qf X.xe s := by
  have caught : ∀ y ∈ scope.names, y.2 = .free → ∃ c, X.env.cells.lookup y.1 = some c := fun y hy e => I.ok.has _ ((ok.free y hy e).elim .inl .inr)
  refine comprehension_at (use := use) rfl hs (closure_ok caught) ok.kind (fun y hy e => (ok.uniq y hy).trans (by rw [e])) (thn (hi.run pins s σ H _ I h) fun xv sA hA => thn hA fun itv sB hB => ?_)
  obtain ⟨it, fp, tn, J, HB, rfl, IB, T, stB, fB, q⟩ := hB
  refine wpAny_newObj_type (newEnv_comp ?_) (by show 0 ≤ sizeLine; decide)
  generalize hD : sB.heap.objs.size = D
  obtain ⟨V, ⟨m0, v0⟩, turn⟩ := q D (IB.hok.fresh (Nat.le_of_eq hD))
  -- the list is laid
  generalize hsC : ({ sB with heap := sB.heap.push { cls := .type "list", data := .seq ([] : List Value).toArray } } : Shared) = sC
  have hpC : sC.heap = sB.heap.push { cls := .type "list", data := .seq ([] : List Value).toArray } := by rw [← hsC]
  have oldC : ∀ b o, sB.heap.get? b = some o → sC.heap.get? b = some o := fun b o e => by rw [hpC]; exact Heap.get?_push_of_some _ e
  have IC : Inv X pins σ (upd HB D (.lst [])) sC := by
    rw [← hsC]
    exact IB.laid (t' := sB.toks) (fun b o e => Heap.get?_push_of_some _ e) (Nat.le_of_eq hD) ⟨Nat.zero_le _, [], 0, .nil, by rw [← hD]; exact Heap.get?_push_size _ rfl⟩
  have small : ∀ b ∈ fp, b < sB.heap.objs.size := fun b hb => let ⟨_, e, _⟩ := T.obj _ _ stB b hb; Heap.lt_size e
  have fC : ∀ b ∈ fp, FpOk X pins (upd HB D (.lst [])) b := fun b hb => ⟨by rw [upd_ne (by rw [← hD]; exact Nat.ne_of_lt (small b hb))]; exact (fB b hb).1, (fB b hb).2⟩
  have ltC : ∀ b ∈ fp, b < sC.heap.objs.size := fun b hb => by rw [hpC, Heap.size_push]; exact Nat.lt_succ_of_lt (small b hb)
  have stC : tn 0 sC.heap := T.keep _ _ _ stB fun b _ o e => oldC b o e
  have IE := block_start IC ok hN fun b hb => ⟨fC b hb, ltC b hb⟩
  -- the parts in the block's context
  generalize hHC : upd HB D (.lst []) = HC at IC IE v0 fC
  have pg := hg sC HC sC.heap.objs.size (cellsFrom (sC.heap.objs.size + 1) scope.names (cloFrom X.env.cells scope.names [])) fp
  have pt := ht sC HC sC.heap.objs.size (cellsFrom (sC.heap.objs.size + 1) scope.names (cloFrom X.env.cells scope.names [])) fp
  have tkB := fun F hF => blk_takes (scope := scope) (cl := cellsFrom (sC.heap.objs.size + 1) scope.names (cloFrom X.env.cells scope.names [])) (fp := fp) (F := F) tk hW hst hfr IC fC hF
  have pe := fun F hF => he sC HC sC.heap.objs.size (cellsFrom (sC.heap.objs.size + 1) scope.names (cloFrom X.env.cells scope.names [])) fp _ (tkB F hF)
  show codeAny _ _ (.compStart (.ListComp elt [⟨tg, iter, ifs, 0⟩] scope pos) 0 (.ref it) (.ref D) (compEnvC scope (cellsFrom (sC.heap.objs.size + 1) scope.names (cloFrom X.env.cells scope.names [])) sC.heap.objs.size X.env)) (compEnds (model X.prog X.w) X.A X.xe use Qf (.ref D) (compEnvC scope (cellsFrom (sC.heap.objs.size + 1) scope.names (cloFrom X.env.cells scope.names [])) sC.heap.objs.size X.env)) { sC with heap := pushCells (sC.heap.push { cls := .type "dict", data := .dict #[] }) scope.names }
  generalize hce : compEnvC scope (cellsFrom (sC.heap.objs.size + 1) scope.names (cloFrom X.env.cells scope.names [])) sC.heap.objs.size X.env = ce at IE pg pt pe tkB ⊢
  have hL : ce.locals = sC.heap.objs.size := by rw [← hce]; rfl
  generalize hsE : ({ sC with heap := pushCells (sC.heap.push { cls := .type "dict", data := .dict #[] }) scope.names } : Shared) = sE at IE ⊢
  have stE : tn 0 sE.heap := T.keep _ _ _ stC fun b _ o e => by rw [← hsE]; exact pushCells_keeps _ _ _ _ (Heap.get?_push_of_some _ e)
  have still : ∀ {σ' : L2.St} {H' : Hp} {s' : Shared}, Inv (X.blk sC HC scope ce fp) [] σ' H' s' → (∀ b ∈ fp, H' b = none) → ∀ b ∈ fp, FpOk (X.blk sC HC scope ce fp) [] H' b := fun {σ' H' s'} I' hn b hb =>
    ⟨hn b hb, (I'.ok.exf b hb).1, I'.ok.exfs b hb, .inl hb, fun x c e => (I'.ok.exf b hb).2 x c e, fun p hp => nomatch (show p ∈ ([] : List (Addr × Obj)) from hp)⟩
  have errs : ∀ e s', CompFails (model X.prog X.w) X.A X.xe ce e s' → compEnds (model X.prog X.w) X.A X.xe use Qf (.ref D) ce (.error e) s' := fun e s' k => by cases use <;> exact k
  have pe := pe (fun e s' => compEnds (model X.prog X.w) X.A X.xe use Qf (.ref D) ce (.error e) s') errs
  have loop : codeAny (model X.prog X.w) X.A (.compLoop (.ListComp elt [⟨tg, iter, ifs, 0⟩] scope pos) 0 (.ref it) (.ref D) ce) (compEnds (model X.prog X.w) X.A X.xe use Qf (.ref D) ce) sE := by
    refine compLoop_any (fun n s' => ∃ i H', Inv (X.blk sC HC scope ce fp) [] (wipe σ (own.map (·.2))) H' s' ∧ tn i s'.heap ∧ (∀ b ∈ fp, H' b = none) ∧ V i n H') ?_ m0 ⟨0, HC, IE, stE, fun b hb => (fC b hb).1, v0⟩
    rintro n s1 ⟨i, H1, I1, t1, f1, v1⟩
    rcases turn i n H1 v1 with ⟨stop, won⟩ | ⟨go, Nx, next, step⟩
    · refine thnF (T.done (X.blk sC HC scope ce fp) rfl rfl rfl hc i [] s1 _ H1 (fun _ _ => False) I1 (still I1 f1) t1 stop) ?_
      rintro _ s2 ⟨rfl, I2⟩
      obtain ⟨m, ns, _⟩ := I2.loc
      have lo : H1 ce.locals = none := I2.free
      refine fin D ce s2 m H1 (IC.call' (ch := fp) I2.os I2.base I2.hok I2.bare fun b hb => ?_) won ns (by rw [hL]; exact IC.fpOk (Nat.le_refl _) (by rw [← hL]; exact lo))
      obtain ⟨_, y2, _, y4, y5, y6⟩ := fC b hb
      exact ⟨y4, y2, y5, y6⟩
    · refine thnF (T.item (X.blk sC HC scope ce fp) rfl rfl rfl hc i [] s1 _ H1 (fun _ _ => False) I1 (still I1 f1) t1 go) ?_
      rintro _ s2 ⟨u, rfl, h2⟩
      refine thnF h2 fun _ s3 ⟨x, H3, I3, r3, y3, t3, f3⟩ => ?_
      refine thnF (pg.run _ s3 _ H3 x u _ (I3.pinned (still I3 f3) (T.obj _ _ t3)) r3 (step x H3 y3)) fun _ s4 ⟨σ4, H4, I4, w4, q4⟩ => ?_
      refine thnF (pt.run _ s4 σ4 H4 _ I4 q4) fun b s5 ⟨H5, I5, q5⟩ => ?_
      have ends : ∀ {s' : Shared} {H' : Hp}, Inv (X.blk sC HC scope ce fp) ([] ++ pinsAt fp s3.heap) σ4 H' s' → Nx H' → ∃ m, m < n ∧ ∃ i H', Inv (X.blk sC HC scope ce fp) [] (wipe σ (own.map (·.2))) H' s' ∧ tn i s'.heap ∧ (∀ b ∈ fp, H' b = none) ∧ V i m H' := fun {s' H'} I' nx => by
        obtain ⟨m', lt, v'⟩ := next H' nx
        have held : ∀ b ∈ fp, ∀ o, s3.heap.get? b = some o → s'.heap.get? b = some o ∧ H' b = none := fun b hb o e => by
          have z := I'.pin (b, o) (List.mem_append_right _ (List.mem_append_right _ (mem_pinsAt hb e)))
          exact ⟨z.1, z.2.1⟩
        have len : (wipe σ (own.map (·.2))).length = σ4.length := by rw [← w4]; exact wipe_length _ _
        refine ⟨m', lt, i + 1, H', (I'.unpinned (pins := [])).weak len fun j v e => ?_, T.keep _ _ _ t3 fun b hb o e => (held b hb o e).1, fun b hb => ?_, v'⟩
        · rw [← w4] at e; exact (wipe_some e).1
        · obtain ⟨o, e, _⟩ := T.obj _ _ t3 b hb
          exact (held b hb o e).2
      cases b with
      | false =>
        rw [if_neg Bool.false_ne_true] at q5 ⊢
        exact ends I5 q5
      | true =>
        rw [if_pos rfl] at q5 ⊢
        refine thn (pe.run _ s5 σ4 H5 _ (I5.wish _) q5) fun z s6 ⟨yv, H6, I6, r6, acc, l6, z6, nx⟩ => ?_
        exact app_ok (X := X.blk sC HC scope ce fp) I6.unwish l6 z6 r6 fun s7 I7 => ends I7 nx
  exact codeAny_compStart_list loop (T.self X.A 0 _ _ _ stE loop)
theorem pe_lcw {elt tg iter : Expr} {ifs : List Expr} {scope : Scope} {own : List (Str × Nat)} {pos : Pos} {wi : TI} {g : TG} {tt : TT} {te : TE}
    (tk : Takes X W) (hW : ∀ cls d σ σ' H, W cls d σ H → W cls d σ' H) (hst : X.stack = X.env :: X.outer) (hfr : X.env.frame = some X.env.locals) (hc : X.calm = true) (hN : X.N.Nodup) (hi : PI X tg iter wi) (ok : BlkOk X.N X.env.scope scope own)
    (hg : ∀ (s : Shared) (H : Hp) (C : Addr) (cl : List (Str × Addr)) (fp : List Addr), PG (X.blk s H scope (compEnvC scope cl C X.env) fp) tg g)
    (ht : ∀ (s : Shared) (H : Hp) (C : Addr) (cl : List (Str × Addr)) (fp : List Addr), PTs (X.blk s H scope (compEnvC scope cl C X.env) fp) ifs tt)
    (he : PEw X W scope elt te) (hs : ∀ x, foldedSetIterable iter X.env x = pure x := by intro _; rfl) : PE X (.ListComp elt [⟨tg, iter, ifs, 0⟩] scope pos) (tLc wi g tt te (own.map (·.2))) :=
  ⟨fun pins s σ H Q I h => by
    rw [eval_ListComp]
    refine lcw_core (use := none) tk hW hst hfr hc hN I hi ok hg ht he hs h fun D ce s' m H' I' q ns f => ⟨m, ns, fun h'' sb => ?_⟩
    exact ⟨.ref D, H', I'.turned (t' := s'.toks) (fun b o hb e => (sb.2 b hb).trans e) f.1 f.2.1 f.2.2.2.1 f.2.2.2.2.1 f.2.2.2.2.2, rfl, q⟩⟩
theorem ps_setLcw {i : Nat} {y : Str} {py : Pos} {elt tg iter : Expr} {ifs : List Expr} {scope : Scope} {own : List (Str × Nat)} {pos spos : Pos} {wi : TI} {g : TG} {tt : TT} {te : TE}
    (tk : Takes X W) (hW : ∀ cls d σ σ' H, W cls d σ H → W cls d σ' H) (hst : X.stack = X.env :: X.outer) (hfr : X.env.frame = some X.env.locals) (hc : X.calm = true) (hN : X.N.Nodup) (hy : X.N[i]? = some y) (hyl : X.env.scope.names.lookup y = some .local)
    (hsw : swapsWith (.ListComp elt [⟨tg, iter, ifs, 0⟩] scope pos) (some (.Name y py)) spos.line X.env = pure true) (hi : PI X tg iter wi) (ok : BlkOk X.N X.env.scope scope own)
    (hg : ∀ (s : Shared) (H : Hp) (C : Addr) (cl : List (Str × Addr)) (fp : List Addr), PG (X.blk s H scope (compEnvC scope cl C X.env) fp) tg g)
    (ht : ∀ (s : Shared) (H : Hp) (C : Addr) (cl : List (Str × Addr)) (fp : List Addr), PTs (X.blk s H scope (compEnvC scope cl C X.env) fp) ifs tt)
    (he : PEw X W scope elt te) (hs : ∀ x, foldedSetIterable iter X.env x = pure x := by intro _; rfl) : PS X (.Assign [.Name y py] (.ListComp elt [⟨tg, iter, ifs, 0⟩] scope pos) spos) (tAsg (tLc wi g tt te (own.map (·.2))) (gName i)) :=
  ⟨fun pins s σ H D I h => by
    rw [exec_Assign_Name_used _ _ _ _ hsw]
    refine wpAny_bind (wpAny_standAt (wpAny_bind (wpAny_bind ?_)))
    have core := lcw_core (use := some (assign (.Name y py) X.env)) (pos := pos) (pos' := firstIterPos [⟨tg, iter, ifs, 0⟩] pos) (Qf := fun _ s' => SP X pins D .next s') tk hW hst hfr hc hN I hi ok hg ht he hs (show tLc wi g tt te (own.map (·.2)) σ H (fun x H1 => gName i x σ H1 D.nx) from h) fun L ce s' m H' I' q ns f => ?_
    · exact thn core fun _ _ z => wpAny_pure (wpAny_pure z)
    refine wpAny_assign_Name (store_ok2 (v := V.ref L) I' hN hy (.inl hyl) rfl (fun s2 I2 ⟨a, sb, ha⟩ => ?_) (.inr hyl))
    have ne : ce.locals ≠ a := ha.elim (fun z => by rw [z]; exact f.2.1) fun z e => f.2.2.2.2.1 y a z e.symm
    exact ⟨m, ns.sameBut sb ne, fun h3 sb3 => ⟨_, H', I2.turned (t' := s2.toks) (fun b o hb e => (sb3.2 b hb).trans e) f.1 f.2.1 f.2.2.2.1 f.2.2.2.2.1 f.2.2.2.2.2, q⟩⟩⟩
end
end Mx

/-! a comprehension whose element may raise: its mirror -/
namespace Mi
open PySem PySem.Spec PyProof.Rows L2
def finW (vs : List Nat) (e0 : List Sl) : Res MS (List U) → Res MS U
  | .ok us s => .ok (.lst us) { s with env := backE e0 s.env vs }
  | .err x s => .err x { s with env := backE e0 (wipeE s.env vs) vs }
  | .stuck => .stuck
def compW (vs : List Nat) (g : U → M Unit) (t : M Bool) (e : M U) : List U → List U → M (List U)
  | acc, [] => ret acc
  | acc, x :: xs => bd (noE (g x)) fun _ => bd (noE t) fun k => bif k then
      bd e (fun y => when (decide (acc.length < sizeLine)) fun s => compW vs g t e (acc ++ [y]) xs { s with env := wipeE s.env vs })
    else fun s => compW vs g t e acc xs { s with env := wipeE s.env vs }
def lcW (vs : List Nat) (mi : M (List U)) (g : U → M Unit) (t : M Bool) (e : M U) : M U := bd mi fun xs s => when (noOwn s.env vs) (fun s => finW vs s.env (compW vs g t e [] xs { s with env := wipeE s.env vs })) s
theorem excRep_up {G : Gx} {ρ ρ' : Rho} {H : Hp} {x : U} {cls : Value} {d : Option Addr} (r : ExcRep G ρ H x cls d) (u : Up G ρ H ρ' H) : ExcRep G ρ' H x cls d := by
  cases x with
  | exc c fs =>
    obtain ⟨C, h1, h2, dx, vs, h3, h4, h5⟩ := r
    exact ⟨C, h1, h2, dx, vs, h3, h4, h5.up u⟩
  | ty n => exact r
  | _ => exact r.elim
section
variable {X : Cx} {W : WX} {e a b c o tg : Expr} {es ifs : List Expr} {m ma mb mc : M U} {ms : M (List U)} {mt : M Bool} {g : U → M Unit} {gs : List U → M Unit} {pos : Pos} {vs : List Nat} {t : TE} {tt : TT} {tgr : TG}
theorem slcW {wi : TI} {te : TE} {mi : M (List U)} (hW : ∀ cls d σ σ' H, W cls d σ H → W cls d σ' H) (hi : SIt X W wi mi) (hg : SGb X W0 vs tg tgr g) (ht : STt X W0 tt mt) (he : SEt X W te m) : SEt X W (tLc wi tgr tt te vs) (lcW vs mi g mt m) := by
  intro ρ s σ H Q R h
  refine hi ρ s σ H _ R (h.bd fun xs s1 ρ1 H1 J _ x1 R1 wk h1 => ?_)
  obtain ⟨hno, h1⟩ := h1.when
  intro D hD
  have nD1 : ¬ ρ1.wr D := R1.fresh hD
  -- the block's start
  have Rw := (R1.wipe (vs := vs)).pin (D := D) (o := .lst []) hD trivial
  have laid : Ext (gx X) ρ1 H1 (ρ1.drop vs) (upd H1 D (.lst [])) := (R1.laidExt hD).trans drop_ext
  refine ⟨fun i k H2 => k = xs.length - i ∧ i ≤ xs.length ∧ ∃ ρ2 s2 acc vacc, Ext (gx X) ρ1 H1 ρ2 H2 ∧ Rl (gx X) (ρ2.pin D) s2 (L2.wipe σ vs) H2 ∧ (∀ i ∈ vs, ∀ u, s2.env[i]? ≠ some (Sl.own u)) ∧ H2 D = some (.lst vacc) ∧ Reps (gx X) (ρ2.pin D) H2 acc vacc ∧ ¬ ρ2.wr D ∧
      OkV X W ρ1 σ H1 (finW vs s1.env (compW vs g mt m acc (xs.drop i) s2)) Q, ⟨xs.length, by simp, Nat.zero_le _, ρ1.drop vs, _, [], [], laid, Rw, ?_, upd_same, .nil, fun w => nD1 (drop_wr w), h1⟩, ?_⟩
  · intro i hi u e
    rw [show ({ s1 with env := wipeE s1.env vs } : MS).env = wipeE s1.env vs from rfl, wipeE_get, if_pos hi] at e
    split at e <;> cases e
  rintro i k H2 ⟨rfl, hi2, ρ2, s2, acc, vacc, x2, R2, nw2, eD, racc, nD, h2⟩
  have xp : Up (gx X) ρ1 H1 (ρ2.pin D) H2 := ⟨fun b q e n t => ⟨(x2.keep b q e n t).1, fun w => (pin_wr w).elim (x2.keep b q e n t).2 fun z => by rw [z, hD] at e; cases e⟩, x2.ss⟩
  obtain ⟨stop, go⟩ := wk (ρ2.pin D) H2 i xp R2.occK hi2
  by_cases hlt : i < xs.length
  · have ed : xs.drop i = xs[i] :: xs.drop (i + 1) := List.drop_eq_getElem_cons hlt
    rw [ed] at h2
    obtain ⟨gg, yy⟩ := go xs[i] (by simp [hlt])
    refine .inr ⟨gg, fun H' => ∃ ρ3 s3 acc' vacc', Ext (gx X) ρ1 H1 ρ3 H' ∧ Rl (gx X) (ρ3.pin D) s3 (L2.wipe σ vs) H' ∧ (∀ i ∈ vs, ∀ u, s3.env[i]? ≠ some (Sl.own u)) ∧ H' D = some (.lst vacc') ∧ Reps (gx X) (ρ3.pin D) H' acc' vacc' ∧ ¬ ρ3.wr D ∧
      OkV X W ρ1 σ H1 (finW vs s1.env (compW vs g mt m acc' (xs.drop (i + 1)) s3)) Q, fun H' q => ⟨xs.length - (i + 1), by omega, rfl, hlt, q⟩, fun x H3 y => ?_⟩
    obtain ⟨hx, rx⟩ := yy x H3 y
    have lay : Ext (gx X) (ρ2.pin D) H2 (ρ2.pin D) H3 ∧ Rl (gx X) (ρ2.pin D) s2 (L2.wipe σ vs) H3 ∧ Ext (gx X) ρ2 H2 ρ2 H3 := by
      rcases hx with rfl | ⟨p, o, hp, rfl⟩
      · exact ⟨Ext.refl, R2, Ext.refl⟩
      · refine ⟨R2.laidExt hp, R2.laid hp, ⟨⟨fun b q e n _ => ⟨.inl (by rw [upd_ne (ne_of_none e hp)]; exact e), n⟩, fun _ _ e => e⟩, rfl, fun b q _ e _ => by rw [upd_ne (ne_of_none e hp)]; exact e⟩⟩
    obtain ⟨lay1, lay2, lay3⟩ := lay
    have eD3 : H3 D = some (.lst vacc) := lay1.zk D _ (.inr rfl) eD trivial
    have h3 := h2
    have x3 := x2.trans lay3
    clear h2
    refine hg (ρ2.pin D) s2 _ H3 xs[i] x _ lay2 rx ?_
    unfold compW bd noE at h3
    cases q4 : g xs[i] s2 with
    | err y s4 => rw [q4] at h3; exact h3.elim
    | stuck => rw [q4] at h3; exact h3.elim
    | ok w4 s4 =>
      rw [q4] at h3
      intro ρ' σ4 H4 x4 R4 l4 k4
      obtain ⟨ρ4, rfl, y4, n4, e4⟩ := unpin_ext x4 R4 nD eD3
      refine ⟨by rw [wipe_eq l4 k4, wipe_wipe], ?_⟩
      have ew : L2.wipe σ4 vs = L2.wipe σ vs := by rw [wipe_eq l4 k4, wipe_wipe]
      refine ht (ρ4.pin D) s4 σ4 H4 _ R4 ?_
      dsimp only at h3
      cases q5 : mt s4 with
      | err y s5 => rw [q5] at h3; exact h3.elim
      | stuck => rw [q5] at h3; exact h3.elim
      | ok b s5 =>
        rw [q5] at h3
        intro ρ'5 H5 b' x5 R5 eb
        subst eb
        obtain ⟨ρ5, rfl, y5, n5, e5⟩ := unpin_ext x5 R5 n4 e4
        have X5 := (x3.trans y4).trans y5
        dsimp only at h3
        cases b with
        | false =>
          rw [if_neg Bool.false_ne_true]
          have Rn := R5.wipe (vs := vs)
          rw [ew] at Rn
          refine ⟨ρ5.drop vs, _, acc, vacc, X5.trans drop_ext, Rn, ?_, e5, ((((racc.up lay1.toUp).up x4.toUp).up x5.toUp).up drop_ext.toUp), fun w => n5 (drop_wr w), h3⟩
          intro i hi u e
          rw [show ({ s5 with env := wipeE s5.env vs } : MS).env = wipeE s5.env vs from rfl, wipeE_get, if_pos hi] at e
          split at e <;> cases e
        | true =>
          rw [if_pos rfl]
          simp only [cond_true] at h3
          refine he (ρ5.pin D) s5 σ4 H5 _ R5 ?_
          cases q6 : m s5 with
          | err y s6 =>
            rw [q6] at h3
            intro ρ'6 H6 cls d x6 R6 r6
            obtain ⟨ρ6, rfl, y6, n6, e6⟩ := unpin_ext x6 R6 n5 e5
            have Rz := R6.wipe (vs := vs)
            rw [ew] at Rz
            have X6 := (X5.trans y6).trans (drop_ext (vs := vs))
            have h3 : ∀ ρ' H' cls d, Ext (gx X) ρ1 H1 ρ' H' → Rl (gx X) ρ' { s6 with env := backE s1.env (wipeE s6.env vs) vs } σ H' → ExcRep (gx X) ρ' H' y cls d → W cls d σ H' := h3
            refine hW _ _ _ _ _ (h3 (ρ6.drop vs) H6 cls d X6 (Rz.unpin (fun w => n6 (drop_wr w)) R1 X6.toUp hno ?_) (excRep_up r6 (unpin_up.trans drop_ext.toUp)))
            intro i hi u e
            rw [show ({ s6 with env := wipeE s6.env vs } : MS).env = wipeE s6.env vs from rfl, wipeE_get, if_pos hi] at e
            split at e <;> cases e
          | stuck => rw [q6] at h3; exact h3.elim
          | ok u s6 =>
            rw [q6] at h3
            intro ρ'6 H6 v x6 R6 r6
            obtain ⟨ρ6, rfl, y6, n6, e6⟩ := unpin_ext x6 R6 n5 e5
            have X6 := X5.trans y6
            dsimp only at h3
            have h3' : acc.length < sizeLine ∧ OkV X W ρ1 σ H1 (finW vs s1.env (compW vs g mt m (acc ++ [u]) (xs.drop (i + 1)) { s6 with env := wipeE s6.env vs })) Q := by
              unfold when at h3
              split at h3
              · rename_i e; exact ⟨of_decide_eq_true e, h3⟩
              · exact h3.elim
            have ra := (((racc.up lay1.toUp).up x4.toUp).up x5.toUp).up x6.toUp
            have wD : (ρ6.pin D).wr D := Rho.At.wr (.z (.inr rfl))
            have Rf := (R6.fill (o := .lst (vacc ++ [v])) trivial).wipe (vs := vs)
            rw [ew] at Rf
            have f6 : Ext (gx X) ρ1 H1 (ρ6.drop vs) (upd H6 D (.lst (vacc ++ [v]))) := by
              have Y := X6.trans (drop_ext (vs := vs))
              have nb : ∀ {b q}, H1 b = some q → b ≠ D := fun {b q} eb z => by rw [z, hD] at eb; cases eb
              exact ⟨⟨fun b q eb n t => ⟨by rw [upd_ne (nb eb)]; exact (Y.keep b q eb n t).1, (Y.keep b q eb n t).2⟩, Y.ss⟩, Y.Z, fun b q z eb t => by rw [upd_ne (nb eb)]; exact Y.zk b q z eb t⟩
            refine ⟨vacc, e6, by rw [← ra.length]; exact h3'.1, ρ6.drop vs, _, acc ++ [u], vacc ++ [v], f6, Rf, ?_, upd_same, ?_, fun w => n6 (drop_wr w), h3'.2⟩
            · intro i hi u e
              rw [show ({ s6 with env := wipeE s6.env vs } : MS).env = wipeE s6.env vs from rfl, wipeE_get, if_pos hi] at e
              split at e <;> cases e
            · exact ((ra.up (put_up wD)).up drop_ext.toUp).app (.cons ((r6.up (put_up wD)).up drop_ext.toUp) .nil)
  · have e : i = xs.length := by omega
    subst e
    rw [List.drop_length] at h2
    refine .inl ⟨stop rfl, h2 ρ2 H2 (.ref D) x2 (R2.unpin nD R1 x2.toUp hno nw2) (.lst (.of eD nD) (racc.up unpin_up))⟩


theorem slcNW {X : Cx} {W : WX} {vs : List Nat} {tgr : TG} {tt : TT} {g : U → M Unit} {mt : M Bool} {m : M U} {wi : TI} {te : TE} {mi : M (List U)} (hW : ∀ cls d σ σ' H, W cls d σ H → W cls d σ' H) (hi : SIt X W wi mi) (hg : SGb X W0 vs tg tgr g) (ht : STt X W0 tt mt) (he : SEt X W te m) : ∀ ρ s σ H Q, Rl (gx X) ρ s σ H → OkN X W ρ σ H (lcW vs mi g mt m s) Q → tLc wi tgr tt te vs σ H Q := by
  intro ρ s σ H Q R h
  refine hi ρ s σ H _ R (OkN.bd (m := mi) h fun xs s1 ρ1 H1 J _ x1 R1 wk h1 => ?_)
  obtain ⟨hno, h1⟩ := OkN.when h1
  intro D hD
  have nD1 : ¬ ρ1.wr D := R1.fresh hD
  -- the block's start
  have Rw := (R1.wipe (vs := vs)).pin (D := D) (o := .lst []) hD trivial
  have laid : Ext (gx X) ρ1 H1 (ρ1.drop vs) (upd H1 D (.lst [])) := (R1.laidExt hD).trans drop_ext
  refine ⟨fun i k H2 => k = xs.length - i ∧ i ≤ xs.length ∧ ∃ ρ2 s2 acc vacc, Ext (gx X) ρ1 H1 ρ2 H2 ∧ Rl (gx X) (ρ2.pin D) s2 (L2.wipe σ vs) H2 ∧ (∀ i ∈ vs, ∀ u, s2.env[i]? ≠ some (Sl.own u)) ∧ H2 D = some (.lst vacc) ∧ Reps (gx X) (ρ2.pin D) H2 acc vacc ∧ ¬ ρ2.wr D ∧
      OkN X W ρ1 σ H1 (finW vs s1.env (compW vs g mt m acc (xs.drop i) s2)) Q, ⟨xs.length, by simp, Nat.zero_le _, ρ1.drop vs, _, [], [], laid, Rw, ?_, upd_same, .nil, fun w => nD1 (drop_wr w), h1⟩, ?_⟩
  · intro i hi u e
    rw [show ({ s1 with env := wipeE s1.env vs } : MS).env = wipeE s1.env vs from rfl, wipeE_get, if_pos hi] at e
    split at e <;> cases e
  rintro i k H2 ⟨rfl, hi2, ρ2, s2, acc, vacc, x2, R2, nw2, eD, racc, nD, h2⟩
  have xp : Up (gx X) ρ1 H1 (ρ2.pin D) H2 := ⟨fun b q e n t => ⟨(x2.keep b q e n t).1, fun w => (pin_wr w).elim (x2.keep b q e n t).2 fun z => by rw [z, hD] at e; cases e⟩, x2.ss⟩
  obtain ⟨stop, go⟩ := wk (ρ2.pin D) H2 i xp R2.occK hi2
  by_cases hlt : i < xs.length
  · have ed : xs.drop i = xs[i] :: xs.drop (i + 1) := List.drop_eq_getElem_cons hlt
    rw [ed] at h2
    obtain ⟨gg, yy⟩ := go xs[i] (by simp [hlt])
    refine .inr ⟨gg, fun H' => ∃ ρ3 s3 acc' vacc', Ext (gx X) ρ1 H1 ρ3 H' ∧ Rl (gx X) (ρ3.pin D) s3 (L2.wipe σ vs) H' ∧ (∀ i ∈ vs, ∀ u, s3.env[i]? ≠ some (Sl.own u)) ∧ H' D = some (.lst vacc') ∧ Reps (gx X) (ρ3.pin D) H' acc' vacc' ∧ ¬ ρ3.wr D ∧
      OkN X W ρ1 σ H1 (finW vs s1.env (compW vs g mt m acc' (xs.drop (i + 1)) s3)) Q, fun H' q => ⟨xs.length - (i + 1), by omega, rfl, hlt, q⟩, fun x H3 y => ?_⟩
    obtain ⟨hx, rx⟩ := yy x H3 y
    have lay : Ext (gx X) (ρ2.pin D) H2 (ρ2.pin D) H3 ∧ Rl (gx X) (ρ2.pin D) s2 (L2.wipe σ vs) H3 ∧ Ext (gx X) ρ2 H2 ρ2 H3 := by
      rcases hx with rfl | ⟨p, o, hp, rfl⟩
      · exact ⟨Ext.refl, R2, Ext.refl⟩
      · refine ⟨R2.laidExt hp, R2.laid hp, ⟨⟨fun b q e n _ => ⟨.inl (by rw [upd_ne (ne_of_none e hp)]; exact e), n⟩, fun _ _ e => e⟩, rfl, fun b q _ e _ => by rw [upd_ne (ne_of_none e hp)]; exact e⟩⟩
    obtain ⟨lay1, lay2, lay3⟩ := lay
    have eD3 : H3 D = some (.lst vacc) := lay1.zk D _ (.inr rfl) eD trivial
    have h3 := h2
    have x3 := x2.trans lay3
    clear h2
    refine hg (ρ2.pin D) s2 _ H3 xs[i] x _ lay2 rx ?_
    unfold compW bd noE at h3
    cases q4 : g xs[i] s2 with
    | err y s4 => rw [q4] at h3; exact h3.elim
    | stuck => rw [q4] at h3; exact h3.elim
    | ok w4 s4 =>
      rw [q4] at h3
      intro ρ' σ4 H4 x4 R4 l4 k4
      obtain ⟨ρ4, rfl, y4, n4, e4⟩ := unpin_ext x4 R4 nD eD3
      refine ⟨by rw [wipe_eq l4 k4, wipe_wipe], ?_⟩
      have ew : L2.wipe σ4 vs = L2.wipe σ vs := by rw [wipe_eq l4 k4, wipe_wipe]
      refine ht (ρ4.pin D) s4 σ4 H4 _ R4 ?_
      dsimp only at h3
      cases q5 : mt s4 with
      | err y s5 => rw [q5] at h3; exact h3.elim
      | stuck => rw [q5] at h3; exact h3.elim
      | ok b s5 =>
        rw [q5] at h3
        intro ρ'5 H5 b' x5 R5 eb
        subst eb
        obtain ⟨ρ5, rfl, y5, n5, e5⟩ := unpin_ext x5 R5 n4 e4
        have X5 := (x3.trans y4).trans y5
        dsimp only at h3
        cases b with
        | false =>
          rw [if_neg Bool.false_ne_true]
          have Rn := R5.wipe (vs := vs)
          rw [ew] at Rn
          refine ⟨ρ5.drop vs, _, acc, vacc, X5.trans drop_ext, Rn, ?_, e5, ((((racc.up lay1.toUp).up x4.toUp).up x5.toUp).up drop_ext.toUp), fun w => n5 (drop_wr w), h3⟩
          intro i hi u e
          rw [show ({ s5 with env := wipeE s5.env vs } : MS).env = wipeE s5.env vs from rfl, wipeE_get, if_pos hi] at e
          split at e <;> cases e
        | true =>
          rw [if_pos rfl]
          simp only [cond_true] at h3
          refine he (ρ5.pin D) s5 σ4 H5 _ R5 ?_
          cases q6 : m s5 with
          | err y s6 =>
            rw [q6] at h3
            intro ρ'6 H6 cls d x6 R6 r6
            obtain ⟨ρ6, rfl, y6, n6, e6⟩ := unpin_ext x6 R6 n5 e5
            have Rz := R6.wipe (vs := vs)
            rw [ew] at Rz
            have X6 := (X5.trans y6).trans (drop_ext (vs := vs))
            have h3 : ∀ ρ' H' cls d, Ext (gx X) ρ1 H1 ρ' H' → Rl (gx X) ρ' { s6 with env := backE s1.env (wipeE s6.env vs) vs } σ H' → ExcRep (gx X) ρ' H' y cls d → W cls d σ H' := h3
            refine hW _ _ _ _ _ (h3 (ρ6.drop vs) H6 cls d X6 (Rz.unpin (fun w => n6 (drop_wr w)) R1 X6.toUp hno ?_) (excRep_up r6 (unpin_up.trans drop_ext.toUp)))
            intro i hi u e
            rw [show ({ s6 with env := wipeE s6.env vs } : MS).env = wipeE s6.env vs from rfl, wipeE_get, if_pos hi] at e
            split at e <;> cases e
          | stuck => rw [q6] at h3; exact h3.elim
          | ok u s6 =>
            rw [q6] at h3
            intro ρ'6 H6 v x6 R6 r6
            obtain ⟨ρ6, rfl, y6, n6, e6⟩ := unpin_ext x6 R6 n5 e5
            have X6 := X5.trans y6
            dsimp only at h3
            have h3' : acc.length < sizeLine ∧ OkN X W ρ1 σ H1 (finW vs s1.env (compW vs g mt m (acc ++ [u]) (xs.drop (i + 1)) { s6 with env := wipeE s6.env vs })) Q := by
              unfold when at h3
              split at h3
              · rename_i e; exact ⟨of_decide_eq_true e, h3⟩
              · exact h3.elim
            have ra := (((racc.up lay1.toUp).up x4.toUp).up x5.toUp).up x6.toUp
            have wD : (ρ6.pin D).wr D := Rho.At.wr (.z (.inr rfl))
            have Rf := (R6.fill (o := .lst (vacc ++ [v])) trivial).wipe (vs := vs)
            rw [ew] at Rf
            have f6 : Ext (gx X) ρ1 H1 (ρ6.drop vs) (upd H6 D (.lst (vacc ++ [v]))) := by
              have Y := X6.trans (drop_ext (vs := vs))
              have nb : ∀ {b q}, H1 b = some q → b ≠ D := fun {b q} eb z => by rw [z, hD] at eb; cases eb
              exact ⟨⟨fun b q eb n t => ⟨by rw [upd_ne (nb eb)]; exact (Y.keep b q eb n t).1, (Y.keep b q eb n t).2⟩, Y.ss⟩, Y.Z, fun b q z eb t => by rw [upd_ne (nb eb)]; exact Y.zk b q z eb t⟩
            refine ⟨vacc, e6, by rw [← ra.length]; exact h3'.1, ρ6.drop vs, _, acc ++ [u], vacc ++ [v], f6, Rf, ?_, upd_same, ?_, fun w => n6 (drop_wr w), h3'.2⟩
            · intro i hi u e
              rw [show ({ s6 with env := wipeE s6.env vs } : MS).env = wipeE s6.env vs from rfl, wipeE_get, if_pos hi] at e
              split at e <;> cases e
            · exact ((ra.up (put_up wD)).up drop_ext.toUp).app (.cons ((r6.up (put_up wD)).up drop_ext.toUp) .nil)
  · have e : i = xs.length := by omega
    subst e
    rw [List.drop_length] at h2
    have et : ρ2.tm = none := R2.tm
    exact .inl ⟨stop rfl, h2 ρ2 H2 D (fun o e => by rw [hD] at e; cases e) x2 et nD (pin_tmp (R2.unwipe R1 xp hno nw2) nD) ⟨vacc, eD, racc.up (Up.same (fun a h => (tmp_wr et h).elim wr_pin fun z => by rw [z]; exact Rho.At.wr (.z (.inr rfl))) fun _ _ e => e)⟩⟩


/-- over every context of the block, its exceptions taken -/
def SBw (X : Cx) (W : WX) (scope : Scope) (P : Cx → Prop) : Prop := ∀ (s : Shared) (H : Hp) (C : Addr) (cl : List (Str × Addr)) (fp : List Addr) (E : Value → Shared → Prop), Takes ((Cx.bk X scope s H C cl fp).wish E) W → P ((Cx.bk X scope s H C cl fp).wish E)
theorem se_lcw {elt iter : Expr} {scope : Scope} {own : List (Str × Nat)} {mi : M (List U)} (tk : Takes X W) (hW : ∀ cls d σ σ' H, W cls d σ H → W cls d σ' H) (hst : X.stack = X.env :: X.outer) (hfr : X.env.frame = some X.env.locals) (hc : X.calm = true) (hN : X.N.Nodup) (hi : SI X W tg iter mi) (ok : BlkOk X.N X.env.scope scope own) (hg : SGB X scope (own.map (·.2)) tg g) (ht : SB X scope fun Y => STs Y W0 ifs mt) (he : SBw X W scope fun Y => SE Y W elt m)
    (hs : ∀ x, foldedSetIterable iter X.env x = pure x := by intro _; rfl) : SE X W (.ListComp elt [⟨tg, iter, ifs, 0⟩] scope pos) (lcW (own.map (·.2)) mi g mt m) := by
  obtain ⟨wi, pi, hi⟩ := hi
  obtain ⟨tg', pg, hg⟩ := hg
  exact ⟨_, Mx.pe_lcw (te := tE X W m) (tt := tT X W0 mt) tk hW hst hfr hc hN pi ok pg (fun s H C cl fp => (ht s H C cl fp).pts) (fun s H C cl fp E t => (he s H C cl fp E t).pe) hs, slcW (te := tE X W m) (tt := tT X W0 mt) hW hi hg (fun ρ s σ H Q R k => ⟨ρ, s, R, k⟩) fun ρ s σ H Q R k => ⟨ρ, s, R, k⟩⟩
theorem sen_lcw {elt iter : Expr} {scope : Scope} {own : List (Str × Nat)} {mi : M (List U)} (tk : Takes X W) (hW : ∀ cls d σ σ' H, W cls d σ H → W cls d σ' H) (hst : X.stack = X.env :: X.outer) (hfr : X.env.frame = some X.env.locals) (hc : X.calm = true) (hN : X.N.Nodup) (hi : SI X W tg iter mi) (ok : BlkOk X.N X.env.scope scope own) (hg : SGB X scope (own.map (·.2)) tg g) (ht : SB X scope fun Y => STs Y W0 ifs mt) (he : SBw X W scope fun Y => SE Y W elt m)
    (hs : ∀ x, foldedSetIterable iter X.env x = pure x := by intro _; rfl) : SEN X W (.ListComp elt [⟨tg, iter, ifs, 0⟩] scope pos) (lcW (own.map (·.2)) mi g mt m) := by
  obtain ⟨wi, pi, hi⟩ := hi
  obtain ⟨tg', pg, hg⟩ := hg
  exact ⟨_, Mx.pe_lcw (te := tE X W m) (tt := tT X W0 mt) tk hW hst hfr hc hN pi ok pg (fun s H C cl fp => (ht s H C cl fp).pts) (fun s H C cl fp E t => (he s H C cl fp E t).pe) hs, slcNW (te := tE X W m) (tt := tT X W0 mt) hW hi hg (fun ρ s σ H Q R k => ⟨ρ, s, R, k⟩) fun ρ s σ H Q R k => ⟨ρ, s, R, k⟩⟩
theorem ss_setLcw {elt iter : Expr} {scope : Scope} {own : List (Str × Nat)} {mi : M (List U)} {i : Nat} {y : Str} {py spos : Pos} (tk : Takes X W) (hW : ∀ cls d σ σ' H, W cls d σ H → W cls d σ' H) (hst : X.stack = X.env :: X.outer) (hfr : X.env.frame = some X.env.locals) (hc : X.calm = true) (hN : X.N.Nodup) (hy : X.N[i]? = some y) (hyl : X.env.scope.names.lookup y = some .local)
    (hsw : swapsWith (.ListComp elt [⟨tg, iter, ifs, 0⟩] scope pos) (some (.Name y py)) spos.line X.env = pure true) (hi : SI X W tg iter mi) (ok : BlkOk X.N X.env.scope scope own) (hg : SGB X scope (own.map (·.2)) tg g) (ht : SB X scope fun Y => STs Y W0 ifs mt) (he : SBw X W scope fun Y => SE Y W elt m)
    (hs : ∀ x, foldedSetIterable iter X.env x = pure x := by intro _; rfl) : SS X W (.Assign [.Name y py] (.ListComp elt [⟨tg, iter, ifs, 0⟩] scope pos) spos) (bd (lcW (own.map (·.2)) mi g mt m) fun u => bd (stv i u) fun _ => ret .nx) := by
  obtain ⟨wi, pi, hi⟩ := hi
  obtain ⟨tg', pg, hg⟩ := hg
  refine ⟨_, Mx.ps_setLcw (te := tE X W m) (tt := tT X W0 mt) tk hW hst hfr hc hN hy hyl hsw pi ok pg (fun s H C cl fp => (ht s H C cl fp).pts) (fun s H C cl fp E t => (he s H C cl fp E t).pe) hs, fun ρ s σ H D R k => ?_⟩
  refine slcW (te := tE X W m) (tt := tT X W0 mt) hW hi hg (fun ρ s σ H Q R k => ⟨ρ, s, R, k⟩) (fun ρ s σ H Q R k => ⟨ρ, s, R, k⟩) ρ s σ H _ R (OkS.bdE k fun u s1 ρ1 H1 v _ x1 R1 r1 h1 => ?_)
  exact h1 _ _ H1 free_ext (R1.set i r1)
end
end Mi

/-! what a comprehension whose element may raise computes -/
namespace Mi
open PySem PySem.Spec PyProof.Rows L2
theorem noE_ok' {α : Type} {m : M α} {s s' : MS} {a : α} (h : m s = .ok a s') : noE m s = .ok a s' := by unfold noE; rw [h]
theorem compW_ok {vs : List Nat} {g : U → M Unit} {t : M Bool} {e : M U} : ∀ (xs acc : List U) (s : MS) {us : List U} {s' : MS}, compL vs g t e acc xs s = .ok us s' → compW vs g t e acc xs s = .ok us s' := by
  intro xs
  induction xs with
  | nil => exact fun acc s us s' h => h
  | cons x xs ih =>
    intro acc s us s' h
    unfold compL at h
    unfold compW
    unfold bd at h ⊢
    cases q : g x s with
    | err y s1 => rw [q] at h; cases h
    | stuck => rw [q] at h; cases h
    | ok u s1 =>
      rw [q] at h
      rw [noE_ok' q]
      dsimp only at h ⊢
      cases q2 : t s1 with
      | err y s2 => rw [q2] at h; cases h
      | stuck => rw [q2] at h; cases h
      | ok b s2 =>
        rw [q2] at h
        rw [noE_ok' q2]
        dsimp only at h ⊢
        cases b with
        | false => exact ih _ _ h
        | true =>
          simp only [cond_true] at h ⊢
          cases q3 : e s2 with
          | err y s3 => rw [q3] at h; cases h
          | stuck => rw [q3] at h; cases h
          | ok z s3 =>
            rw [q3] at h
            dsimp only at h ⊢
            unfold when at h ⊢
            split at h
            · rename_i c; rw [if_pos c]; exact ih _ _ h
            · cases h
/-- where the plain one ends well, so does it -/
theorem lcW_ok {vs : List Nat} {mi : M (List U)} {g : U → M Unit} {t : M Bool} {e : M U} {s s' : MS} {u : U} (h : lcM vs mi g t e s = .ok u s') : lcW vs mi g t e s = .ok u s' := by
  unfold lcM bd at h
  unfold lcW bd
  cases q : mi s with
  | err y s1 => rw [q] at h; cases h
  | stuck => rw [q] at h; cases h
  | ok xs s1 =>
    rw [q] at h
    dsimp only at h ⊢
    unfold when at h ⊢
    split at h
    · rename_i c
      rw [if_pos c]
      dsimp only at h ⊢
      cases q2 : compL vs g t e [] xs { s1 with env := wipeE s1.env vs } with
      | err y s2 => rw [q2] at h; cases h
      | stuck => rw [q2] at h; cases h
      | ok us s2 => rw [q2] at h; rw [compW_ok _ _ _ q2]; exact h
    · cases h
theorem compW_step {vs : List Nat} {g : U → M Unit} {e : M U} {E E2 : List Sl} {st st2 : List U} {x y : U} {acc xs : List U} (h : elR g e E st x = .ok y ⟨E2, st2⟩) (hl : acc.length < sizeLine) :
    compW vs g (ret true) e acc (x :: xs) ⟨E, st⟩ = compW vs g (ret true) e (acc ++ [y]) xs ⟨wipeE E2 vs, st2⟩ := by
  have c : compW vs g (ret true) e acc (x :: xs) ⟨E, st⟩ = bindR (noE (g x) ⟨E, st⟩) fun _ => bd e (fun y => when (decide (acc.length < sizeLine)) fun s => compW vs g (ret true) e (acc ++ [y]) xs { s with env := wipeE s.env vs }) := (rfl)
  rw [c]
  unfold elR at h
  cases q : g x ⟨E, st⟩ with
  | ok a s =>
    rw [q] at h
    have h : e s = .ok y ⟨E2, st2⟩ := h
    rw [noE_ok' q]
    show bindR (e s) _ = _
    rw [h]
    show when _ _ _ = _
    rw [when_d hl]
  | err a s => rw [q] at h; cases h
  | stuck => rw [q] at h; cases h
theorem compW_pre {α : Type} (r f : α → U) {vs : List Nat} {g : U → M Unit} {e : M U} {E : List Sl} {st : List U} {rest : List U} : ∀ {xs : List α} {acc : List U}, (∀ x ∈ xs, ∃ E2, elR g e E st (r x) = .ok (f x) ⟨E2, st⟩ ∧ wipeE E2 vs = E) → acc.length + xs.length ≤ sizeLine →
    compW vs g (ret true) e acc (xs.map r ++ rest) ⟨E, st⟩ = compW vs g (ret true) e (acc ++ xs.map f) rest ⟨E, st⟩ := by
  intro xs
  induction xs with
  | nil => intro acc _ _; simp
  | cons x xs ih =>
    intro acc h hl
    obtain ⟨E2, e1, e2⟩ := h x (by simp)
    rw [List.map_cons, List.cons_append, compW_step e1 (by simp only [List.length_cons] at hl; omega), e2, ih (fun y hy => h y (by simp [hy])) (by simp only [List.length_cons, List.length_append, List.length_nil] at hl ⊢; omega)]
    simp
/-- the first that raises -/
theorem lcW_err {α : Type} (r f : α → U) {xs : List α} {x y : U} {rest : List U} {vs : List Nat} {mi : M (List U)} {g : U → M Unit} {e : M U} {s : MS} {E0 E1 E2 : List Sl} {st st1 st2 : List U} (h1 : mi s = .ok (xs.map r ++ x :: rest) ⟨E0, st⟩) (hn : noOwn E0 vs = true)
    (he : ∀ x ∈ xs, ∃ E2, elR g e (wipeE E0 vs) st (r x) = .ok (f x) ⟨E2, st⟩ ∧ wipeE E2 vs = wipeE E0 vs) (hg : g x ⟨wipeE E0 vs, st⟩ = .ok () ⟨E1, st1⟩) (hx : e ⟨E1, st1⟩ = .err y ⟨E2, st2⟩) (hE : wipeE E2 vs = wipeE E0 vs) (hl : xs.length ≤ sizeLine) :
    lcW vs mi g (ret true) e s = .err y ⟨E0, st2⟩ := by
  unfold lcW
  rw [bd_ok h1]
  show when (noOwn E0 vs) _ _ = _
  rw [hn]
  show finW vs E0 _ = _
  rw [compW_pre r f (acc := []) he (by simpa using hl)]
  have c : ∀ acc, compW vs g (ret true) e acc (x :: rest) ⟨wipeE E0 vs, st⟩ = bindR (noE (g x) ⟨wipeE E0 vs, st⟩) fun _ => bd e (fun y => when (decide (acc.length < sizeLine)) fun s => compW vs g (ret true) e (acc ++ [y]) rest { s with env := wipeE s.env vs }) := fun acc => (rfl)
  rw [c, noE_ok' hg]
  show finW vs E0 (bindR (e _) _) = _
  rw [hx]
  show Res.err y (⟨backE E0 (wipeE E2 vs) vs, st2⟩ : MS) = _
  rw [hE, back_wipe]
end Mi

/-! xs.index(x) -/
namespace Mi
open PySem PySem.Spec PyProof.Rows L2
def firstE (d : PyData) (ds : List PyData) : Option Nat := ds.findIdx? fun z => PyData.eqv z d
def indexU : U → List U → M U
  | .lst us, [x] => (match dat x, dats us with
    | some d, some ds => when (SeqAt.shaped (.list ds) && SeqAt.shaped d) (match firstE d ds with
      | some j => ret (.int (j : Nat))
      | none => stk)
    | _, _ => stk)
  | _, _ => stk
theorem mm_index {X : Cx} {W : WX} (hu : X.A.units + 65 < cLine) : MtR X "list.index" (rCM X W indexU) := by
  intro pins s σ H x xs v us Q I rx rs ⟨ρ, s', σ', u, ws, R, c, cs, h⟩
  unfold indexU at h
  split at h
  · rename_i us0 y
    cases cs with
    | cons c1 c2 =>
      cases c2
      rename_i b
      cases e1 : dat y with
      | none => simp only [e1] at h; exact h.elim
      | some d =>
        cases e2 : dats us0 with
        | none => simp only [e1, e2] at h; exact h.elim
        | some ds =>
          simp only [e1, e2] at h
          obtain ⟨z, h⟩ := h.when
          rw [Bool.and_eq_true] at z
          obtain ⟨p2, vs, rfl, q2, r2⟩ := c.lst
          cases e3 : firstE d ds with
          | none => rw [e3] at h; exact h.elim
          | some j =>
            rw [e3] at h
            unfold firstE at e3
            obtain ⟨hj, e4, e5⟩ := List.findIdx?_eq_some_iff_getElem.mp e3
            exact mt_indexD hu pins s σ H _ _ v us Q I rx rs ⟨p2, b, d, ds, j, ds[j], rfl, rfl, .lst (.of q2) (dats_ok r2 e2), con_dat c1 e1, z.1, z.2, List.getElem?_eq_getElem hj, e4, fun m z' hm hz => by
              obtain ⟨hl, e6⟩ := List.getElem?_eq_some_iff.mp hz
              rw [← e6]
              exact Bool.eq_false_iff.mpr (e5 m hm), h.ret R .int⟩
  · exact h.elim
end Mi

namespace Br
open PySem PySem.Spec PyProof.Rows L2 Mi
abbrev PP : Program := PySem.Challenge.pw_brimweb_k04_texts_of_numbers
def top (i : Nat) : Stmt := PP.main.body.getD i (.Pass ⟨0, 0, 0, 0⟩)
abbrev s__law_field : Stmt := top 20
abbrev s__law_told : Stmt := top 21
abbrev s_common : Stmt := top 10
abbrev s_ZeroDivisor___init__ : Stmt := clsAt (top 3) 0
abbrev s_ratio : Stmt := top 11
abbrev s_InvalidNumber___init__ : Stmt := clsAt (top 2) 0
abbrev s_checked : Stmt := top 12
abbrev s_ratio_text : Stmt := top 13
abbrev s_ParseError___init__ : Stmt := clsAt (top 4) 0
abbrev s_is_digits : Stmt := top 14
abbrev s_read_ratio : Stmt := top 15
abbrev s__law_draw : Stmt := top 18
abbrev s__law_text : Stmt := top 27
abbrev s__law_neg : Stmt := top 23
abbrev s__law_q : Stmt := top 22
abbrev s__law_like : Stmt := top 19
abbrev s__law_spelled : Stmt := top 26
abbrev s__law_small : Stmt := top 24
abbrev s__law_number : Stmt := top 25
abbrev s__law_begin : Stmt := top 17
abbrev s_law : Stmt := top 28
def fldL : Str → Str → Bool := fun c f => false
def ktL : Tag → U → Option Bool := ktC ["Point", "Net"]
theorem ktL_ty : ∀ g u, ktL g u ≠ none → (∃ n, u = .ty n) ∨ ∃ n, u = .cls n := ktC_ty _
def excL : List Str := ("InvalidNumber" : Str) :: ("ZeroDivisor" : Str) :: ("InvalidCell" : Str) :: ("DuplicateCell" : Str) :: ("OtherCells" : Str) :: ("InvalidCells" : Str) :: ("InvalidWeight" : Str) :: ("InvalidFloor" : Str) :: ("InvalidBrim" : Str) :: ("InvalidConstant" : Str) :: ("InvalidBounds" : Str) :: ("TooMany" : Str) :: ("TooFew" : Str) :: ("NotBounded" : Str) :: ("NotOpen" : Str) :: ("OutOfBounds" : Str) :: ("InvalidStanding" : Str) :: ("Unsure" : Str) :: ("NotTurned" : Str) :: ("InvalidWidth" : Str) :: ("InvalidSigns" : Str) :: ("InvalidShare" : Str) :: ("NotPositive" : Str) :: ("Calm" : Str) :: ("InvalidKept" : Str) :: ("InvalidAge" : Str) :: ("Singular" : Str) :: ("InvalidAction" : Str) :: ("InvalidName" : Str) :: ("DuplicateName" : Str) :: ("WrongKind" : Str) :: ("CapacityExceeded" : Str) :: ("InvalidLimit" : Str) :: ("InvalidCommand" : Str) :: ("ParseError" : Str) :: ("UnknownCell" : Str) :: ("UnknownName" : Str) :: ("NothingLeft" : Str) :: []
def okcL (c : Str) : Bool := decide (c ∈ excL)
def xlP : List (Str × Str) := (("InvalidNumber", "code") : Str × Str) :: (("InvalidNumber", "given") : Str × Str) :: (("ZeroDivisor", "code") : Str × Str) :: (("InvalidCell", "code") : Str × Str) :: (("InvalidCell", "given") : Str × Str) :: (("DuplicateCell", "code") : Str × Str) :: (("DuplicateCell", "cell") : Str × Str) :: (("OtherCells", "code") : Str × Str) :: (("InvalidCells", "code") : Str × Str) :: (("InvalidCells", "given") : Str × Str) :: (("InvalidWeight", "code") : Str × Str) :: (("InvalidWeight", "at") : Str × Str) :: (("InvalidFloor", "code") : Str × Str) :: (("InvalidFloor", "at") : Str × Str) :: (("InvalidBrim", "code") : Str × Str) :: (("InvalidBrim", "at") : Str × Str) :: (("InvalidConstant", "code") : Str × Str) :: (("InvalidConstant", "at") : Str × Str) :: (("InvalidBounds", "code") : Str × Str) :: (("InvalidBounds", "cell") : Str × Str) :: (("TooMany", "code") : Str × Str) :: (("TooMany", "bound") : Str × Str) :: (("TooFew", "code") : Str × Str) :: (("TooFew", "bound") : Str × Str) :: (("NotBounded", "code") : Str × Str) :: (("NotBounded", "cell") : Str × Str) :: (("NotOpen", "code") : Str × Str) :: (("NotOpen", "cell") : Str × Str) :: (("OutOfBounds", "code") : Str × Str) :: (("OutOfBounds", "cell") : Str × Str) :: (("InvalidStanding", "code") : Str × Str) :: (("InvalidStanding", "given") : Str × Str) :: (("Unsure", "code") : Str × Str) :: (("NotTurned", "code") : Str × Str) :: (("InvalidWidth", "code") : Str × Str) :: (("InvalidWidth", "at") : Str × Str) :: (("InvalidSigns", "code") : Str × Str) :: (("InvalidSigns", "given") : Str × Str) :: (("InvalidShare", "code") : Str × Str) :: (("InvalidShare", "given") : Str × Str) :: (("NotPositive", "code") : Str × Str) :: (("NotPositive", "cell") : Str × Str) :: (("Calm", "code") : Str × Str) :: (("InvalidKept", "code") : Str × Str) :: (("InvalidKept", "given") : Str × Str) :: (("InvalidAge", "code") : Str × Str) :: (("InvalidAge", "given") : Str × Str) :: (("Singular", "code") : Str × Str) :: (("InvalidAction", "code") : Str × Str) :: (("InvalidAction", "at") : Str × Str) :: (("InvalidName", "code") : Str × Str) :: (("InvalidName", "name") : Str × Str) :: (("DuplicateName", "code") : Str × Str) :: (("DuplicateName", "name") : Str × Str) :: (("WrongKind", "code") : Str × Str) :: (("WrongKind", "name") : Str × Str) :: (("CapacityExceeded", "code") : Str × Str) :: (("CapacityExceeded", "bound") : Str × Str) :: (("InvalidLimit", "code") : Str × Str) :: (("InvalidLimit", "given") : Str × Str) :: (("InvalidCommand", "code") : Str × Str) :: (("InvalidCommand", "at") : Str × Str) :: (("ParseError", "code") : Str × Str) :: (("UnknownCell", "code") : Str × Str) :: (("UnknownCell", "cell") : Str × Str) :: (("UnknownName", "code") : Str × Str) :: (("UnknownName", "name") : Str × Str) :: (("NothingLeft", "code") : Str × Str) :: []
def xlL (c f : Str) : Bool := decide ((c, f) ∈ xlP)
structure Facts (P : Program) (G : Gx) : Prop where
  d__law_field : ∃ fd, FunD G.K "_law_field" "_law_field" (defArgs s__law_field) (defBody s__law_field) (defScope s__law_field) [] [] (He.ga G.K "_law_field") fd
  g__law_field : G.mg "_law_field" = some (.ref (He.ga G.K "_law_field"))
  k__law_field : PySem.W.keepIn G.K (.ref (He.ga G.K "_law_field")) = true
  d__law_told : ∃ fd, FunD G.K "_law_told" "_law_told" (defArgs s__law_told) (defBody s__law_told) (defScope s__law_told) [] [] (He.ga G.K "_law_told") fd
  g__law_told : G.mg "_law_told" = some (.ref (He.ga G.K "_law_told"))
  k__law_told : PySem.W.keepIn G.K (.ref (He.ga G.K "_law_told")) = true
  d_common : ∃ fd, FunD G.K "common" "common" (defArgs s_common) (defBody s_common) (defScope s_common) [] [] (He.ga G.K "common") fd
  g_common : G.mg "common" = some (.ref (He.ga G.K "common"))
  k_common : PySem.W.keepIn G.K (.ref (He.ga G.K "common")) = true
  d_ratio : ∃ fd, FunD G.K "ratio" "ratio" (defArgs s_ratio) (defBody s_ratio) (defScope s_ratio) [V.int 1] [] (He.ga G.K "ratio") fd
  g_ratio : G.mg "ratio" = some (.ref (He.ga G.K "ratio"))
  k_ratio : PySem.W.keepIn G.K (.ref (He.ga G.K "ratio")) = true
  d_checked : ∃ fd, FunD G.K "checked" "checked" (defArgs s_checked) (defBody s_checked) (defScope s_checked) [] [] (He.ga G.K "checked") fd
  g_checked : G.mg "checked" = some (.ref (He.ga G.K "checked"))
  k_checked : PySem.W.keepIn G.K (.ref (He.ga G.K "checked")) = true
  d_ratio_text : ∃ fd, FunD G.K "ratio_text" "ratio_text" (defArgs s_ratio_text) (defBody s_ratio_text) (defScope s_ratio_text) [] [] (He.ga G.K "ratio_text") fd
  g_ratio_text : G.mg "ratio_text" = some (.ref (He.ga G.K "ratio_text"))
  k_ratio_text : PySem.W.keepIn G.K (.ref (He.ga G.K "ratio_text")) = true
  d_is_digits : ∃ fd, FunD G.K "is_digits" "is_digits" (defArgs s_is_digits) (defBody s_is_digits) (defScope s_is_digits) [] [] (He.ga G.K "is_digits") fd
  g_is_digits : G.mg "is_digits" = some (.ref (He.ga G.K "is_digits"))
  k_is_digits : PySem.W.keepIn G.K (.ref (He.ga G.K "is_digits")) = true
  d_read_ratio : ∃ fd, FunD G.K "read_ratio" "read_ratio" (defArgs s_read_ratio) (defBody s_read_ratio) (defScope s_read_ratio) [] [] (He.ga G.K "read_ratio") fd
  g_read_ratio : G.mg "read_ratio" = some (.ref (He.ga G.K "read_ratio"))
  k_read_ratio : PySem.W.keepIn G.K (.ref (He.ga G.K "read_ratio")) = true
  d__law_draw : ∃ fd, FunD G.K "_law_draw" "_law_draw" (defArgs s__law_draw) (defBody s__law_draw) (defScope s__law_draw) [] [] (He.ga G.K "_law_draw") fd
  g__law_draw : G.mg "_law_draw" = some (.ref (He.ga G.K "_law_draw"))
  k__law_draw : PySem.W.keepIn G.K (.ref (He.ga G.K "_law_draw")) = true
  d__law_text : ∃ fd, FunD G.K "_law_text" "_law_text" (defArgs s__law_text) (defBody s__law_text) (defScope s__law_text) [] [] (He.ga G.K "_law_text") fd
  g__law_text : G.mg "_law_text" = some (.ref (He.ga G.K "_law_text"))
  k__law_text : PySem.W.keepIn G.K (.ref (He.ga G.K "_law_text")) = true
  d__law_neg : ∃ fd, FunD G.K "_law_neg" "_law_neg" (defArgs s__law_neg) (defBody s__law_neg) (defScope s__law_neg) [] [] (He.ga G.K "_law_neg") fd
  g__law_neg : G.mg "_law_neg" = some (.ref (He.ga G.K "_law_neg"))
  k__law_neg : PySem.W.keepIn G.K (.ref (He.ga G.K "_law_neg")) = true
  d__law_q : ∃ fd, FunD G.K "_law_q" "_law_q" (defArgs s__law_q) (defBody s__law_q) (defScope s__law_q) [] [] (He.ga G.K "_law_q") fd
  g__law_q : G.mg "_law_q" = some (.ref (He.ga G.K "_law_q"))
  k__law_q : PySem.W.keepIn G.K (.ref (He.ga G.K "_law_q")) = true
  d__law_like : ∃ fd, FunD G.K "_law_like" "_law_like" (defArgs s__law_like) (defBody s__law_like) (defScope s__law_like) [] [] (He.ga G.K "_law_like") fd
  g__law_like : G.mg "_law_like" = some (.ref (He.ga G.K "_law_like"))
  k__law_like : PySem.W.keepIn G.K (.ref (He.ga G.K "_law_like")) = true
  d__law_spelled : ∃ fd, FunD G.K "_law_spelled" "_law_spelled" (defArgs s__law_spelled) (defBody s__law_spelled) (defScope s__law_spelled) [] [] (He.ga G.K "_law_spelled") fd
  g__law_spelled : G.mg "_law_spelled" = some (.ref (He.ga G.K "_law_spelled"))
  k__law_spelled : PySem.W.keepIn G.K (.ref (He.ga G.K "_law_spelled")) = true
  d__law_small : ∃ fd, FunD G.K "_law_small" "_law_small" (defArgs s__law_small) (defBody s__law_small) (defScope s__law_small) [] [] (He.ga G.K "_law_small") fd
  g__law_small : G.mg "_law_small" = some (.ref (He.ga G.K "_law_small"))
  k__law_small : PySem.W.keepIn G.K (.ref (He.ga G.K "_law_small")) = true
  d__law_number : ∃ fd, FunD G.K "_law_number" "_law_number" (defArgs s__law_number) (defBody s__law_number) (defScope s__law_number) [] [] (He.ga G.K "_law_number") fd
  g__law_number : G.mg "_law_number" = some (.ref (He.ga G.K "_law_number"))
  k__law_number : PySem.W.keepIn G.K (.ref (He.ga G.K "_law_number")) = true
  d__law_begin : ∃ fd, FunD G.K "_law_begin" "_law_begin" (defArgs s__law_begin) (defBody s__law_begin) (defScope s__law_begin) [] [] (He.ga G.K "_law_begin") fd
  g__law_begin : G.mg "_law_begin" = some (.ref (He.ga G.K "_law_begin"))
  k__law_begin : PySem.W.keepIn G.K (.ref (He.ga G.K "_law_begin")) = true
  d_law : ∃ fd, FunD G.K "law" "law" (defArgs s_law) (defBody s_law) (defScope s_law) [] [] (He.ga G.K "law") fd
  g_law : G.mg "law" = some (.ref (He.ga G.K "law"))
  k_law : PySem.W.keepIn G.K (.ref (He.ga G.K "law")) = true
  n_abs : G.mg "abs" = none
  n_all : G.mg "all" = none
  n_bool : G.mg "bool" = none
  n_int : G.mg "int" = none
  n_isinstance : G.mg "isinstance" = none
  n_len : G.mg "len" = none
  n_list : G.mg "list" = none
  n_range : G.mg "range" = none
  n_str : G.mg "str" = none
  n_tuple : G.mg "tuple" = none
  g_BrimError : G.mg "BrimError" = some (.ref (He.ga G.K "BrimError"))
  g_InvalidNumber : G.mg "InvalidNumber" = some (.ref (He.ga G.K "InvalidNumber"))
  g_NothingLeft : G.mg "NothingLeft" = some (.ref (He.ga G.K "NothingLeft"))
  g_ParseError : G.mg "ParseError" = some (.ref (He.ga G.K "ParseError"))
  g_UnknownCell : G.mg "UnknownCell" = some (.ref (He.ga G.K "UnknownCell"))
  g_UnknownName : G.mg "UnknownName" = some (.ref (He.ga G.K "UnknownName"))
  g_ZeroDivisor : G.mg "ZeroDivisor" = some (.ref (He.ga G.K "ZeroDivisor"))
  g_MOST_DIGITS : ∃ t, G.mg "MOST_DIGITS" = some (.int 30 t)
  fl : FldT G fldL
  ex_InvalidNumber : ExcT P G "InvalidNumber" (some "given")
  ex_ParseError : ExcT P G "ParseError" none
  ex_ZeroDivisor : ExcT P G "ZeroDivisor" none
  fx : FldX G xlL
  hit : HitE G okcL [.ref (He.ga G.K "BrimError"), .ref (He.ga G.K "UnknownCell"), .ref (He.ga G.K "UnknownName"), .ref (He.ga G.K "NothingLeft")]
  kt : KT G ktL
def c_MOST_DIGITS : U := .int 30
theorem se_const_MOST_DIGITS {X : Cx} {W : WX} {pos : Pos} {P : Program} (T : Facts P (gx X)) (g : Gl X "MOST_DIGITS") : SE X W (.Name "MOST_DIGITS" pos) (ret c_MOST_DIGITS) := se_cint g T.g_MOST_DIGITS
theorem sc__law_field : FnScope ["_law_e"] ["_law_e"] (defScope s__law_field) := ⟨rfl, rfl, rfl, by decide +kernel, rfl, by decide +kernel, by decide +kernel⟩
theorem v_f_law__law_wrong : Vis (defScope s_law) "_law_wrong" := .inl (by decide +kernel)
theorem l_f_law__law_row : Loc (defScope s_law) "_law_row" := loc_of (by decide +kernel)
theorem v_f__law_field__law_e : Vis (defScope s__law_field) "_law_e" := .inl (by decide +kernel)
noncomputable def b__law_field : Sm :=
    (seq ((iff_ ((bd (bin (inU false) ((bd (rv 0) (getX xlL "code"))) ((bd (mcons ((ret (.str "InvalidNumber"))) (mcons ((ret (.str "InvalidCell"))) (mcons ((ret (.str "InvalidCells"))) (mcons ((ret (.str "InvalidStanding"))) (mcons ((ret (.str "InvalidSigns"))) (mcons ((ret (.str "InvalidShare"))) (mcons ((ret (.str "InvalidKept"))) (mcons ((ret (.str "InvalidAge"))) (mcons ((ret (.str "InvalidLimit"))) (ret [])))))))))) mkT))) asB)) ((bd ((bd (mcons ((bd (rv 0) (getX xlL "given"))) (ret [])) mkT)) fun u => ret (.rt u))) ((ret .nx))))
    (seq ((iff_ ((bd (bin (inU false) ((bd (rv 0) (getX xlL "code"))) ((bd (mcons ((ret (.str "DuplicateCell"))) (mcons ((ret (.str "InvalidBounds"))) (mcons ((ret (.str "NotBounded"))) (mcons ((ret (.str "NotOpen"))) (mcons ((ret (.str "OutOfBounds"))) (mcons ((ret (.str "NotPositive"))) (mcons ((ret (.str "UnknownCell"))) (ret [])))))))) mkT))) asB)) ((bd ((bd (mcons ((bd (rv 0) (getX xlL "cell"))) (ret [])) mkT)) fun u => ret (.rt u))) ((ret .nx))))
    (seq ((iff_ ((bd (bin (inU false) ((bd (rv 0) (getX xlL "code"))) ((bd (mcons ((ret (.str "InvalidWeight"))) (mcons ((ret (.str "InvalidFloor"))) (mcons ((ret (.str "InvalidBrim"))) (mcons ((ret (.str "InvalidConstant"))) (mcons ((ret (.str "InvalidWidth"))) (mcons ((ret (.str "InvalidAction"))) (mcons ((ret (.str "InvalidCommand"))) (ret [])))))))) mkT))) asB)) ((bd ((bd (mcons ((bd (rv 0) (getX xlL "at"))) (ret [])) mkT)) fun u => ret (.rt u))) ((ret .nx))))
    (seq ((iff_ ((bd (bin (inU false) ((bd (rv 0) (getX xlL "code"))) ((bd (mcons ((ret (.str "InvalidName"))) (mcons ((ret (.str "DuplicateName"))) (mcons ((ret (.str "WrongKind"))) (mcons ((ret (.str "UnknownName"))) (ret []))))) mkT))) asB)) ((bd ((bd (mcons ((bd (rv 0) (getX xlL "name"))) (ret [])) mkT)) fun u => ret (.rt u))) ((ret .nx))))
    (bd ((ifV ((bd (bin (inU false) ((bd (rv 0) (getX xlL "code"))) ((bd (mcons ((ret (.str "TooMany"))) (mcons ((ret (.str "TooFew"))) (mcons ((ret (.str "CapacityExceeded"))) (ret [])))) mkT))) asB)) ((bd (mcons ((bd (rv 0) (getX xlL "bound"))) (ret [])) mkT)) ((bd (ret []) mkT)))) fun u => ret (.rt u))))))
noncomputable def m__law_field : F := mkF 1 b__law_field
theorem okh__law_field {P : Program} {w : World} {G : Gx} {base : Heap} (T : Facts P G) : FnHU P w G base 1 (He.ga G.K "_law_field") (arF 1 [] m__law_field) := by
  obtain ⟨fd, Fd⟩ := T.d__law_field
  exact fnHM Fd (Fd.bindsN fun _ _ _ _ _ _ us hl => match us, hl with | [_], _ => rfl) sc__law_field fun cdv A outer s H E p hr => 
    (sss_cons (ss_if (st_cmp (oc_in hr.u65) bears_C (by rfl) (SE.up (se_fldX T.fx (se_name (i := 0) rfl v_f__law_field__law_e))) (SE.up (se_tup (sa_cons se_str (sa_cons se_str (sa_cons se_str (sa_cons se_str (sa_cons se_str (sa_cons se_str (sa_cons se_str (sa_cons se_str (sa_cons se_str sa_nil)))))))))))) (sss_one (ss_ret (se_tup (sa_cons (se_fldX T.fx (se_name (i := 0) rfl v_f__law_field__law_e)) sa_nil)))) sss_nil)
    (sss_cons (ss_if (st_cmp (oc_in hr.u65) bears_C (by rfl) (SE.up (se_fldX T.fx (se_name (i := 0) rfl v_f__law_field__law_e))) (SE.up (se_tup (sa_cons se_str (sa_cons se_str (sa_cons se_str (sa_cons se_str (sa_cons se_str (sa_cons se_str (sa_cons se_str sa_nil)))))))))) (sss_one (ss_ret (se_tup (sa_cons (se_fldX T.fx (se_name (i := 0) rfl v_f__law_field__law_e)) sa_nil)))) sss_nil)
    (sss_cons (ss_if (st_cmp (oc_in hr.u65) bears_C (by rfl) (SE.up (se_fldX T.fx (se_name (i := 0) rfl v_f__law_field__law_e))) (SE.up (se_tup (sa_cons se_str (sa_cons se_str (sa_cons se_str (sa_cons se_str (sa_cons se_str (sa_cons se_str (sa_cons se_str sa_nil)))))))))) (sss_one (ss_ret (se_tup (sa_cons (se_fldX T.fx (se_name (i := 0) rfl v_f__law_field__law_e)) sa_nil)))) sss_nil)
    (sss_cons (ss_if (st_cmp (oc_in hr.u65) bears_C (by rfl) (SE.up (se_fldX T.fx (se_name (i := 0) rfl v_f__law_field__law_e))) (SE.up (se_tup (sa_cons se_str (sa_cons se_str (sa_cons se_str (sa_cons se_str sa_nil))))))) (sss_one (ss_ret (se_tup (sa_cons (se_fldX T.fx (se_name (i := 0) rfl v_f__law_field__law_e)) sa_nil)))) sss_nil)
    (sss_one (ss_ret (se_if (st_cmp (oc_in hr.u65) bears_C (by rfl) (SE.up (se_fldX T.fx (se_name (i := 0) rfl v_f__law_field__law_e))) (SE.up (se_tup (sa_cons se_str (sa_cons se_str (sa_cons se_str sa_nil)))))) (se_tup (sa_cons (se_fldX T.fx (se_name (i := 0) rfl v_f__law_field__law_e)) sa_nil)) (se_tup sa_nil))))))))
theorem sc__law_told : FnScope ["_law_ask", "_law_e"] ["_law_ask"] (defScope s__law_told) := ⟨rfl, rfl, rfl, by decide +kernel, rfl, by decide +kernel, by decide +kernel⟩
theorem sc_common : FnScope ["one", "other"] ["one", "other"] (defScope s_common) := ⟨rfl, rfl, rfl, by decide +kernel, rfl, by decide +kernel, by decide +kernel⟩
def S_l166_21 : Scope := ⟨.function, [("_law_row", .free), ("read_ratio", .globalImplicit)], false, false, []⟩
theorem lam_l166_21 : LamX.LamS (defScope s_law) S_l166_21 := LamX.lamS_by (by decide +kernel)
theorem v_f_read_ratio_found : Vis (defScope s_read_ratio) "found" := .inl (by decide +kernel)
theorem v_f_ratio_text_bottom : Vis (defScope s_ratio_text) "bottom" := .inl (by decide +kernel)
theorem v_f_ratio_text_top : Vis (defScope s_ratio_text) "top" := .inl (by decide +kernel)
theorem g_f_ratio_text_str : (defScope s_ratio_text).names.lookup ("str" : Str) = some NameKind.globalImplicit := by decide +kernel
theorem l_f_ratio_text_bottom : Loc (defScope s_ratio_text) "bottom" := loc_of (by decide +kernel)
theorem l_f_ratio_text_top : Loc (defScope s_ratio_text) "top" := loc_of (by decide +kernel)
theorem v_f_ratio_bottom : Vis (defScope s_ratio) "bottom" := .inl (by decide +kernel)
theorem v_f_ratio_divisor : Vis (defScope s_ratio) "divisor" := .inl (by decide +kernel)
theorem v_f_ratio_top : Vis (defScope s_ratio) "top" := .inl (by decide +kernel)
theorem l_f_ratio_divisor : Loc (defScope s_ratio) "divisor" := loc_of (by decide +kernel)
theorem v_f_common_one : Vis (defScope s_common) "one" := .inl (by decide +kernel)
theorem v_f_common_other : Vis (defScope s_common) "other" := .inl (by decide +kernel)
theorem g_f_common_int : (defScope s_common).names.lookup ("int" : Str) = some NameKind.globalImplicit := by decide +kernel
theorem ll_f_common_one : (defScope s_common).names.lookup ("one" : Str) = some NameKind.local := by decide +kernel
theorem ll_f_common_other : (defScope s_common).names.lookup ("other" : Str) = some NameKind.local := by decide +kernel
theorem g_f_common_abs : (defScope s_common).names.lookup ("abs" : Str) = some NameKind.globalImplicit := by decide +kernel
noncomputable def x_common_1t : M Bool := (bd (bin (ordU gtI) (rd 1) ((ret (.int 0)))) asB)
theorem X_common_1t (s : MS) : x_common_1t s = ((bd (bin (ordU gtI) (rd 1) ((ret (.int 0)))) asB) : M Bool) s := (rfl)
noncomputable def x_common_1b : Sm := (par2 0 1 (mcons (rv 1) (mcons ((bin modU ((callB intU (mcons (rd 0) (ret [])))) (rd 1))) (ret []))))
theorem X_common_1b (s : MS) : x_common_1b s = ((par2 0 1 (mcons (rv 1) (mcons ((bin modU ((callB intU (mcons (rd 0) (ret [])))) (rd 1))) (ret [])))) : Sm) s := (rfl)
noncomputable def x_common_1 : Sm := whileM (x_common_1t) (x_common_1b)
theorem X_common_1 (s : MS) : x_common_1 s = (whileM (x_common_1t) (x_common_1b) : Sm) s := (rfl)
noncomputable def b_common : Sm :=
    (seq ((par2 0 1 (mcons ((callB absU (mcons (rd 0) (ret [])))) (mcons ((callB absU (mcons (rd 1) (ret [])))) (ret [])))))
    (seq ((x_common_1))
    (bd (rv 0) fun u => ret (.rt u))))
noncomputable def m_common : F := mkF 2 b_common
theorem fn_common {P : Program} {w : World} {G : Gx} {base : Heap} (T : Facts P G) : ∃ fd, FnM P w G base 1 (He.ga G.K "common") fd ["one", "other"] m_common ∧ FunD G.K "common" "common" (defArgs s_common) (defBody s_common) (defScope s_common) [] [] (He.ga G.K "common") fd := by
  obtain ⟨fd, Fd⟩ := T.d_common
  exact ⟨fd, fnM Fd sc_common fun cdv A outer s H E hr => 
    (sss_cons (ss_par2 (i := 0) (j := 1) rfl sc_common.nd rfl rfl (by decide) ll_f_common_one ll_f_common_other (sa_cons (se_callB cb_abs bears_CA g_f_common_abs T.n_abs (by decide +kernel) (sa0_cons (se0_name (i := 0) rfl v_f_common_one) sa0_nil)) (sa_cons (se_callB cb_abs bears_CA g_f_common_abs T.n_abs (by decide +kernel) (sa0_cons (se0_name (i := 1) rfl v_f_common_other) sa0_nil)) sa_nil)) (by rfl))
    (sss_cons (ss_while (passes_of rfl) (st_cmp oc_gt bears_C (by rfl) (se0_name (i := 1) rfl v_f_common_other) (SE.up se_int)) (sss_one (ss_par2 (i := 0) (j := 1) rfl sc_common.nd rfl rfl (by decide) ll_f_common_one ll_f_common_other (sa_cons (se_name (i := 1) rfl v_f_common_other) (sa_cons (se_bin ob_mod bears_C (SE.up (se_callTy cb_int bears_CA g_f_common_int T.n_int (by decide +kernel) (sa0_cons (se0_name (i := 0) rfl v_f_common_one) sa0_nil))) (se0_name (i := 1) rfl v_f_common_other)) sa_nil)) (by rfl))))
    (sss_one (ss_ret (se_name (i := 0) rfl v_f_common_one))))), Fd⟩
theorem ok_common_2 {P : Program} {w : World} {G : Gx} {base : Heap} (T : Facts P G) : FnU P w G base 1 (He.ga G.K "common") (arF 2 [] m_common) := by
  obtain ⟨fd, Fn, Fd⟩ := fn_common (P := P) (w := w) (base := base) T
  exact FnM.u0 2 Fn (Fd.bindsN fun _ _ _ _ _ _ us hl => match us, hl with | [_, _], _ => rfl) rfl
theorem sc_ratio : FnScope ["top", "bottom", "divisor"] ["top", "bottom"] (defScope s_ratio) := ⟨rfl, rfl, rfl, by decide +kernel, rfl, by decide +kernel, by decide +kernel⟩
theorem g_f_ratio_common : (defScope s_ratio).names.lookup ("common" : Str) = some NameKind.globalImplicit := by decide +kernel
theorem g_f_ratio_ZeroDivisor : (defScope s_ratio).names.lookup ("ZeroDivisor" : Str) = some NameKind.globalImplicit := by decide +kernel
noncomputable def b_ratio : Sm :=
    (seq ((iff_ ((bd (bin (eqU false) (rd 1) ((ret (.int 0)))) asB)) ((raiseM "ZeroDivisor" none (ret []))) ((ret .nx))))
    (seq ((bd ((bd (mcons (rv 0) (mcons (rv 1) (ret []))) (callF (arF 2 [] m_common)))) fun u => bd (stv 2 u) fun _ => ret .nx))
    (seq ((iff_ ((bd (bin (ordU ltI) (rd 1) ((ret (.int 0)))) asB)) ((bd ((un negU (rd 2))) fun u => bd (stv 2 u) fun _ => ret .nx)) ((ret .nx))))
    (bd ((bd (mcons ((bin fdivU (rd 0) (rd 2))) (mcons ((bin fdivU (rd 1) (rd 2))) (ret []))) mkT)) fun u => ret (.rt u)))))
noncomputable def m_ratio : F := mkF 3 b_ratio
theorem fn_ratio {P : Program} {w : World} {G : Gx} {base : Heap} (T : Facts P G) : ∃ fd, FnM P w G base 2 (He.ga G.K "ratio") fd ["top", "bottom"] m_ratio ∧ FunD G.K "ratio" "ratio" (defArgs s_ratio) (defBody s_ratio) (defScope s_ratio) [V.int 1] [] (He.ga G.K "ratio") fd := by
  obtain ⟨fd, Fd⟩ := T.d_ratio
  exact ⟨fd, fnM Fd sc_ratio fun cdv A outer s H E hr => 
    (sss_cons (ss_if (st_cmp (oc_eq hr.units) bears_C (by rfl) (se0_name (i := 1) rfl v_f_ratio_bottom) (SE.up se_int)) (sss_one (ss_raise0 T.ex_ZeroDivisor rfl (takes_of rfl rfl rfl rfl) (hr.mono (by decide)) g_f_ratio_ZeroDivisor)) sss_nil)
    (sss_cons (ss_set (i := 2) sc_ratio.nd rfl l_f_ratio_divisor (se_callU (ok_common_2 T) (takes_of rfl rfl rfl rfl) (hr.mono (by decide)) g_f_ratio_common T.g_common T.k_common (sa_cons (se_name (i := 0) rfl v_f_ratio_top) (sa_cons (se_name (i := 1) rfl v_f_ratio_bottom) sa_nil))) (by rfl) (.inl rfl))
    (sss_cons (ss_if (st_cmp oc_lt bears_C (by rfl) (se0_name (i := 1) rfl v_f_ratio_bottom) (SE.up se_int)) (sss_one (ss_set (i := 2) sc_ratio.nd rfl l_f_ratio_divisor (se_neg (se0_name (i := 2) rfl v_f_ratio_divisor)) (by rfl) (.inl rfl))) sss_nil)
    (sss_one (ss_ret (se_tup (sa_cons (se_bin ob_fdiv bears_C (se0_name (i := 0) rfl v_f_ratio_top) (se0_name (i := 2) rfl v_f_ratio_divisor)) (sa_cons (se_bin ob_fdiv bears_C (se0_name (i := 1) rfl v_f_ratio_bottom) (se0_name (i := 2) rfl v_f_ratio_divisor)) sa_nil)))))))), Fd⟩
theorem ok_ratio_2 {P : Program} {w : World} {G : Gx} {base : Heap} (T : Facts P G) : FnU P w G base 2 (He.ga G.K "ratio") (arF 2 [] m_ratio) := by
  obtain ⟨fd, Fn, Fd⟩ := fn_ratio (P := P) (w := w) (base := base) T
  obtain ⟨ds, hd, hb⟩ := Fd.binds1 (ps := ["top", "bottom"]) 2 1 (by simp) (by rfl) (fun _ _ _ _ _ _ _ us its hl hi => match us, its, hl, hi with | [_, _], [_], _, _ => ⟨_, rfl, rfl⟩)
  exact FnM.u (du := []) 2 Fn hb hd (fun _ _ => .nil) rfl
theorem sc_checked : FnScope ["number"] ["number"] (defScope s_checked) := ⟨rfl, rfl, rfl, by decide +kernel, rfl, by decide +kernel, by decide +kernel⟩
theorem v_f_checked_number : Vis (defScope s_checked) "number" := .inl (by decide +kernel)
theorem g_f_checked_ratio : (defScope s_checked).names.lookup ("ratio" : Str) = some NameKind.globalImplicit := by decide +kernel
theorem g_f_checked_InvalidNumber : (defScope s_checked).names.lookup ("InvalidNumber" : Str) = some NameKind.globalImplicit := by decide +kernel
theorem g_f_checked_int : (defScope s_checked).names.lookup ("int" : Str) = some NameKind.globalImplicit := by decide +kernel
theorem g_f_checked_isinstance : (defScope s_checked).names.lookup ("isinstance" : Str) = some NameKind.globalImplicit := by decide +kernel
noncomputable def b_checked : Sm :=
    (seq ((iff_ ((bd ((callB (isiU ktL) (mcons (rd 0) (mcons ((ret (.ty "int"))) (ret []))))) asB)) ((bd ((bd (mcons (rv 0) (mcons ((ret (.int 1))) (ret []))) mkT)) fun u => ret (.rt u))) ((ret .nx))))
    (seq ((iff_ ((bd (bin (ordU ltI) ((bin ixV (rd 0) ((ret (.int 1))))) ((ret (.int 1)))) asB)) ((raiseM "InvalidNumber" (some "given") (mcons (rv 0) (ret [])))) ((ret .nx))))
    (bd ((bd (mcons ((bin ixV (rd 0) ((ret (.int 0))))) (mcons ((bin ixV (rd 0) ((ret (.int 1))))) (ret []))) (callF (arF 2 [] m_ratio)))) fun u => ret (.rt u))))
noncomputable def m_checked : F := mkF 1 b_checked
theorem fn_checked {P : Program} {w : World} {G : Gx} {base : Heap} (T : Facts P G) : ∃ fd, FnM P w G base 3 (He.ga G.K "checked") fd ["number"] m_checked ∧ FunD G.K "checked" "checked" (defArgs s_checked) (defBody s_checked) (defScope s_checked) [] [] (He.ga G.K "checked") fd := by
  obtain ⟨fd, Fd⟩ := T.d_checked
  exact ⟨fd, fnM Fd sc_checked fun cdv A outer s H E hr => 
    (sss_cons (ss_if (st_val (se_callB (cb_isi T.kt ktL_ty) bears_CA g_f_checked_isinstance T.n_isinstance (by decide +kernel) (sa0_cons (se0_name (i := 0) rfl v_f_checked_number) (sa0_cons (SE.up (se_ty g_f_checked_int T.n_int (by decide +kernel))) sa0_nil)))) (sss_one (ss_ret (se_tup (sa_cons (se_name (i := 0) rfl v_f_checked_number) (sa_cons se_int sa_nil))))) sss_nil)
    (sss_cons (ss_if (st_cmp oc_lt bears_C (by rfl) (SE.up (se_ixV hr.units (se0_name (i := 0) rfl v_f_checked_number) (SE.up se_int))) (SE.up se_int)) (sss_one (ss_raise T.ex_InvalidNumber rfl (takes_of rfl rfl rfl rfl) (hr.mono (by decide)) g_f_checked_InvalidNumber (sa_cons (se_name (i := 0) rfl v_f_checked_number) sa_nil))) sss_nil)
    (sss_one (ss_ret (se_callU (ok_ratio_2 T) (takes_of rfl rfl rfl rfl) (hr.mono (by decide)) g_f_checked_ratio T.g_ratio T.k_ratio (sa_cons (se_ixV hr.units (se0_name (i := 0) rfl v_f_checked_number) (SE.up se_int)) (sa_cons (se_ixV hr.units (se0_name (i := 0) rfl v_f_checked_number) (SE.up se_int)) sa_nil))))))), Fd⟩
theorem ok_checked_1 {P : Program} {w : World} {G : Gx} {base : Heap} (T : Facts P G) : FnU P w G base 3 (He.ga G.K "checked") (arF 1 [] m_checked) := by
  obtain ⟨fd, Fn, Fd⟩ := fn_checked (P := P) (w := w) (base := base) T
  exact FnM.u0 1 Fn (Fd.bindsN fun _ _ _ _ _ _ us hl => match us, hl with | [_], _ => rfl) rfl
theorem sc_ratio_text : FnScope ["number", "top", "bottom"] ["number"] (defScope s_ratio_text) := ⟨rfl, rfl, rfl, by decide +kernel, rfl, by decide +kernel, by decide +kernel⟩
theorem v_f_ratio_text_number : Vis (defScope s_ratio_text) "number" := .inl (by decide +kernel)
theorem g_f_ratio_text_checked : (defScope s_ratio_text).names.lookup ("checked" : Str) = some NameKind.globalImplicit := by decide +kernel
noncomputable def b_ratio_text : Sm :=
    (seq ((bd ((bd (mcons (rv 0) (ret [])) (callF (arF 1 [] m_checked)))) fun u => bd ((gtup 2 (gcons (stv 1) (gcons (stv 2) gnil))) u) fun _ => ret .nx))
    (bd ((ifV ((bd (bin (eqU false) (rd 2) ((ret (.int 1)))) asB)) ((callB strU (mcons (rd 1) (ret [])))) ((bd ((jn ((bd (rv 1) fmtU)) (jn ((ret (.str "/"))) (jn ((bd (rv 2) fmtU)) ret))) Str.empty) fun x => ret (.str x))))) fun u => ret (.rt u)))
noncomputable def m_ratio_text : F := mkF 3 b_ratio_text
theorem fn_ratio_text {P : Program} {w : World} {G : Gx} {base : Heap} (T : Facts P G) : ∃ fd, FnM P w G base 4 (He.ga G.K "ratio_text") fd ["number"] m_ratio_text ∧ FunD G.K "ratio_text" "ratio_text" (defArgs s_ratio_text) (defBody s_ratio_text) (defScope s_ratio_text) [] [] (He.ga G.K "ratio_text") fd := by
  obtain ⟨fd, Fd⟩ := T.d_ratio_text
  exact ⟨fd, fnM Fd sc_ratio_text fun cdv A outer s H E hr => 
    (sss_cons (ss_asg (se_callU (ok_checked_1 T) (takes_of rfl rfl rfl rfl) (hr.mono (by decide)) g_f_ratio_text_checked T.g_checked T.k_checked (sa_cons (se_name (i := 0) rfl v_f_ratio_text_number) sa_nil)) (sg_tup rfl (sgs_cons (sg_name (i := 1) sc_ratio_text.nd rfl l_f_ratio_text_top (.inl rfl)) (sgs_cons (sg_name (i := 2) sc_ratio_text.nd rfl l_f_ratio_text_bottom (.inl rfl)) sgs_nil'))))
    (sss_one (ss_ret (se_if (st_cmp (oc_eq hr.units) bears_C (by rfl) (se0_name (i := 2) rfl v_f_ratio_text_bottom) (SE.up se_int)) (se_callTy cb_str bears_CA g_f_ratio_text_str T.n_str (by decide +kernel) (sa0_cons (se0_name (i := 1) rfl v_f_ratio_text_top) sa0_nil)) (se_joined (sj_cons (se_fmt (se_name (i := 1) rfl v_f_ratio_text_top)) (sj_cons se_str (sj_cons (se_fmt (se_name (i := 2) rfl v_f_ratio_text_bottom)) sj_nil)))))))), Fd⟩
theorem ok_ratio_text_1 {P : Program} {w : World} {G : Gx} {base : Heap} (T : Facts P G) : FnU P w G base 4 (He.ga G.K "ratio_text") (arF 1 [] m_ratio_text) := by
  obtain ⟨fd, Fn, Fd⟩ := fn_ratio_text (P := P) (w := w) (base := base) T
  exact FnM.u0 1 Fn (Fd.bindsN fun _ _ _ _ _ _ us hl => match us, hl with | [_], _ => rfl) rfl
theorem sc_is_digits : FnScope ["text"] ["text"] (defScope s_is_digits) := ⟨rfl, rfl, rfl, by decide +kernel, rfl, by decide +kernel, by decide +kernel⟩
theorem g_f_read_ratio_ratio_text : (defScope s_read_ratio).names.lookup ("ratio_text" : Str) = some NameKind.globalImplicit := by decide +kernel
theorem v_f_read_ratio_text : Vis (defScope s_read_ratio) "text" := .inl (by decide +kernel)
theorem g_f_read_ratio_ParseError : (defScope s_read_ratio).names.lookup ("ParseError" : Str) = some NameKind.globalImplicit := by decide +kernel
theorem v_f_read_ratio_below : Vis (defScope s_read_ratio) "below" := .inl (by decide +kernel)
theorem v_f_read_ratio_top : Vis (defScope s_read_ratio) "top" := .inl (by decide +kernel)
theorem g_f_read_ratio_int : (defScope s_read_ratio).names.lookup ("int" : Str) = some NameKind.globalImplicit := by decide +kernel
theorem g_f_read_ratio_ratio : (defScope s_read_ratio).names.lookup ("ratio" : Str) = some NameKind.globalImplicit := by decide +kernel
theorem l_f_read_ratio_found : Loc (defScope s_read_ratio) "found" := loc_of (by decide +kernel)
theorem v_f_read_ratio_slash : Vis (defScope s_read_ratio) "slash" := .inl (by decide +kernel)
theorem v_f_read_ratio_bottom : Vis (defScope s_read_ratio) "bottom" := .inl (by decide +kernel)
theorem l_f_read_ratio_below : Loc (defScope s_read_ratio) "below" := loc_of (by decide +kernel)
theorem v_f_is_digits_text : Vis (defScope s_is_digits) "text" := .inl (by decide +kernel)
theorem g_f_is_digits_len : (defScope s_is_digits).names.lookup ("len" : Str) = some NameKind.globalImplicit := by decide +kernel
theorem g_f_is_digits_MOST_DIGITS : (defScope s_is_digits).names.lookup ("MOST_DIGITS" : Str) = some NameKind.globalImplicit := by decide +kernel
noncomputable def b_is_digits : Sm :=
    (bd ((andV ((chainM (ordU ltI) (ordU leI) ((ret (.int 0))) ((callB lenU (mcons (rd 0) (ret [])))) ((ret c_MOST_DIGITS)))) ((bwM0 "str" (rd 0) isdigU)))) fun u => ret (.rt u))
noncomputable def m_is_digits : F := mkF 1 b_is_digits
theorem fn_is_digits {P : Program} {w : World} {G : Gx} {base : Heap} (T : Facts P G) : ∃ fd, FnM P w G base 1 (He.ga G.K "is_digits") fd ["text"] m_is_digits ∧ FunD G.K "is_digits" "is_digits" (defArgs s_is_digits) (defBody s_is_digits) (defScope s_is_digits) [] [] (He.ga G.K "is_digits") fd := by
  obtain ⟨fd, Fd⟩ := T.d_is_digits
  exact ⟨fd, fnM Fd sc_is_digits fun cdv A outer s H E hr => 
    (sss_one (ss_ret (se_and (se_chain oc_lt oc_le (SE.up se_int) (SE.up (se_callB cb_len bears_CA g_f_is_digits_len T.n_len (by decide +kernel) (sa0_cons (se0_name (i := 0) rfl v_f_is_digits_text) sa0_nil))) (SE.up (se_const_MOST_DIGITS T g_f_is_digits_MOST_DIGITS))) (se_one (se_bw0 F.plainAttrs_str F.slot_str_isdigit F.type_str_isdigit mm_isdigit (se0_name (i := 0) rfl v_f_is_digits_text)))))), Fd⟩
theorem ok_is_digits_1 {P : Program} {w : World} {G : Gx} {base : Heap} (T : Facts P G) : FnU P w G base 1 (He.ga G.K "is_digits") (arF 1 [] m_is_digits) := by
  obtain ⟨fd, Fn, Fd⟩ := fn_is_digits (P := P) (w := w) (base := base) T
  exact FnM.u0 1 Fn (Fd.bindsN fun _ _ _ _ _ _ us hl => match us, hl with | [_], _ => rfl) rfl
theorem sc_read_ratio : FnScope ["text", "top", "slash", "bottom", "digits", "below", "found"] ["text"] (defScope s_read_ratio) := ⟨rfl, rfl, rfl, by decide +kernel, rfl, by decide +kernel, by decide +kernel⟩
theorem v_f_read_ratio_digits : Vis (defScope s_read_ratio) "digits" := .inl (by decide +kernel)
theorem g_f_read_ratio_is_digits : (defScope s_read_ratio).names.lookup ("is_digits" : Str) = some NameKind.globalImplicit := by decide +kernel
theorem l_f_read_ratio_digits : Loc (defScope s_read_ratio) "digits" := loc_of (by decide +kernel)
theorem l_f_read_ratio_bottom : Loc (defScope s_read_ratio) "bottom" := loc_of (by decide +kernel)
theorem l_f_read_ratio_slash : Loc (defScope s_read_ratio) "slash" := loc_of (by decide +kernel)
theorem l_f_read_ratio_top : Loc (defScope s_read_ratio) "top" := loc_of (by decide +kernel)
noncomputable def b_read_ratio : Sm :=
    (seq ((bd ((bwM "str" (rd 0) (mcons ((ret (.str "/"))) (ret [])) partU)) fun u => bd ((gtup 3 (gcons (stv 1) (gcons (stv 2) (gcons (stv 3) gnil)))) u) fun _ => ret .nx))
    (seq ((bd ((ifV ((bd ((bwM "str" (rd 1) (mcons ((ret (.str "-"))) (ret [])) startsU)) asB)) ((bd (rd 1) fun u => bd (bd ((ret (.int 1))) asO) fun l => bd (ret none) fun h => bd (ct u) (slcU l h))) (rv 1))) fun u => bd (stv 4 u) fun _ => ret .nx))
    (seq ((iff_ ((orT ((bd ((bd ((bd (mcons (rv 4) (ret [])) (callF (arF 1 [] m_is_digits)))) asB)) fun k => ret (!k))) ((andT ((bd (bin (eqU false) (rd 2) ((ret (.str "/")))) asB)) ((bd ((bd ((bd (mcons (rv 3) (ret [])) (callF (arF 1 [] m_is_digits)))) asB)) fun k => ret (!k))))))) ((raiseM "ParseError" none (ret []))) ((ret .nx))))
    (seq ((bd ((ifV ((bd (bin (eqU false) (rd 2) ((ret (.str "/")))) asB)) ((callB intU (mcons (rd 3) (ret [])))) ((ret (.int 1))))) fun u => bd (stv 5 u) fun _ => ret .nx))
    (seq ((iff_ ((bd (bin (eqU false) (rd 5) ((ret (.int 0)))) asB)) ((raiseM "ParseError" none (ret []))) ((ret .nx))))
    (seq ((bd ((bd (mcons ((callB intU (mcons (rd 1) (ret [])))) (mcons (rv 5) (ret []))) (callF (arF 2 [] m_ratio)))) fun u => bd (stv 6 u) fun _ => ret .nx))
    (seq ((iff_ ((bd (bin (eqU true) ((bd (mcons (rv 6) (ret [])) (callF (arF 1 [] m_ratio_text)))) (rd 0)) asB)) ((raiseM "ParseError" none (ret []))) ((ret .nx))))
    (bd (rv 6) fun u => ret (.rt u)))))))))
noncomputable def m_read_ratio : F := mkF 7 b_read_ratio
theorem fn_read_ratio {P : Program} {w : World} {G : Gx} {base : Heap} (T : Facts P G) : ∃ fd, FnM P w G base 5 (He.ga G.K "read_ratio") fd ["text"] m_read_ratio ∧ FunD G.K "read_ratio" "read_ratio" (defArgs s_read_ratio) (defBody s_read_ratio) (defScope s_read_ratio) [] [] (He.ga G.K "read_ratio") fd := by
  obtain ⟨fd, Fd⟩ := T.d_read_ratio
  exact ⟨fd, fnM Fd sc_read_ratio fun cdv A outer s H E hr => 
    (sss_cons (ss_asg (se_bw F.plainAttrs_str F.slot_str_partition F.type_str_partition mm_partition (se0_name (i := 0) rfl v_f_read_ratio_text) (sa0_cons (SE.up se_str) sa0_nil)) (sg_tup rfl (sgs_cons (sg_name (i := 1) sc_read_ratio.nd rfl l_f_read_ratio_top (.inl rfl)) (sgs_cons (sg_name (i := 2) sc_read_ratio.nd rfl l_f_read_ratio_slash (.inl rfl)) (sgs_cons (sg_name (i := 3) sc_read_ratio.nd rfl l_f_read_ratio_bottom (.inl rfl)) sgs_nil')))))
    (sss_cons (ss_set (i := 4) sc_read_ratio.nd rfl l_f_read_ratio_digits (se_if (st_val (se_bw F.plainAttrs_str F.slot_str_startswith F.type_str_startswith mm_startswith (se0_name (i := 1) rfl v_f_read_ratio_top) (sa0_cons (SE.up se_str) sa0_nil))) (se_slice (se0_name (i := 1) rfl v_f_read_ratio_top) (so_some se_int) so_none) (se_name (i := 1) rfl v_f_read_ratio_top)) (by rfl) (.inl rfl))
    (sss_cons (ss_if (STw.st (st_or (st_not (st_val (se_callU (ok_is_digits_1 T) (takes_of rfl rfl rfl rfl) (hr.mono (by decide)) g_f_read_ratio_is_digits T.g_is_digits T.k_is_digits (sa_cons (se_name (i := 4) rfl v_f_read_ratio_digits) sa_nil)))) (st_or1 (STw.st (st_and (st_cmp (oc_eq hr.units) bears_C (by rfl) (se0_name (i := 2) rfl v_f_read_ratio_slash) (SE.up se_str)) (st_and1 (st_not (st_val (se_callU (ok_is_digits_1 T) (takes_of rfl rfl rfl rfl) (hr.mono (by decide)) g_f_read_ratio_is_digits T.g_is_digits T.k_is_digits (sa_cons (se_name (i := 3) rfl v_f_read_ratio_bottom) sa_nil)))))))))) (sss_one (ss_raise0 T.ex_ParseError rfl (takes_of rfl rfl rfl rfl) (hr.mono (by decide)) g_f_read_ratio_ParseError)) sss_nil)
    (sss_cons (ss_set (i := 5) sc_read_ratio.nd rfl l_f_read_ratio_below (se_if (st_cmp (oc_eq hr.units) bears_C (by rfl) (se0_name (i := 2) rfl v_f_read_ratio_slash) (SE.up se_str)) (se_callTy cb_int bears_CA g_f_read_ratio_int T.n_int (by decide +kernel) (sa0_cons (se0_name (i := 3) rfl v_f_read_ratio_bottom) sa0_nil)) se_int) (by rfl) (.inl rfl))
    (sss_cons (ss_if (st_cmp (oc_eq hr.units) bears_C (by rfl) (se0_name (i := 5) rfl v_f_read_ratio_below) (SE.up se_int)) (sss_one (ss_raise0 T.ex_ParseError rfl (takes_of rfl rfl rfl rfl) (hr.mono (by decide)) g_f_read_ratio_ParseError)) sss_nil)
    (sss_cons (ss_set (i := 6) sc_read_ratio.nd rfl l_f_read_ratio_found (se_callU (ok_ratio_2 T) (takes_of rfl rfl rfl rfl) (hr.mono (by decide)) g_f_read_ratio_ratio T.g_ratio T.k_ratio (sa_cons (se_callTy cb_int bears_CA g_f_read_ratio_int T.n_int (by decide +kernel) (sa0_cons (se0_name (i := 1) rfl v_f_read_ratio_top) sa0_nil)) (sa_cons (se_name (i := 5) rfl v_f_read_ratio_below) sa_nil))) (by rfl) (.inl rfl))
    (sss_cons (ss_if (st_cmp (oc_ne hr.units) bears_C (by rfl) (SE.up (se_callU (ok_ratio_text_1 T) (takes_of rfl rfl rfl rfl) (hr.mono (by decide)) g_f_read_ratio_ratio_text T.g_ratio_text T.k_ratio_text (sa_cons (se_name (i := 6) rfl v_f_read_ratio_found) sa_nil))) (se0_name (i := 0) rfl v_f_read_ratio_text)) (sss_one (ss_raise0 T.ex_ParseError rfl (takes_of rfl rfl rfl rfl) (hr.mono (by decide)) g_f_read_ratio_ParseError)) sss_nil)
    (sss_one (ss_ret (se_name (i := 6) rfl v_f_read_ratio_found)))))))))), Fd⟩
theorem ok_read_ratio_1 {P : Program} {w : World} {G : Gx} {base : Heap} (T : Facts P G) : FnU P w G base 5 (He.ga G.K "read_ratio") (arF 1 [] m_read_ratio) := by
  obtain ⟨fd, Fn, Fd⟩ := fn_read_ratio (P := P) (w := w) (base := base) T
  exact FnM.u0 1 Fn (Fd.bindsN fun _ _ _ _ _ _ us hl => match us, hl with | [_], _ => rfl) rfl
theorem sc__law_draw : FnScope ["_law_box", "_law_many", "_law_cell", "_law_one", "_law_two", "_law_drawn"] ["_law_box", "_law_many"] (defScope s__law_draw) := ⟨rfl, rfl, rfl, by decide +kernel, rfl, by decide +kernel, by decide +kernel⟩
theorem v_l166_21__law_row : Vis (S_l166_21) "_law_row" := vis_of (by decide +kernel)
theorem g_l166_21_read_ratio : (S_l166_21).names.lookup ("read_ratio" : Str) = some NameKind.globalImplicit := by decide +kernel
theorem g_f_law__law_told : (defScope s_law).names.lookup ("_law_told" : Str) = some NameKind.globalImplicit := by decide +kernel
theorem v_f_law__law_text_here : Vis (defScope s_law) "_law_text_here" := .inl (by decide +kernel)
theorem l_f_law__law_wrong : Loc (defScope s_law) "_law_wrong" := loc_of (by decide +kernel)
def S_l161_17 : Scope := ⟨.function, [("_law_long", .free), ("read_ratio", .globalImplicit)], false, false, []⟩
theorem lam_l161_17 : LamX.LamS (defScope s_law) S_l161_17 := LamX.lamS_by (by decide +kernel)
theorem v_l161_17__law_long : Vis (S_l161_17) "_law_long" := vis_of (by decide +kernel)
theorem g_l161_17_read_ratio : (S_l161_17).names.lookup ("read_ratio" : Str) = some NameKind.globalImplicit := by decide +kernel
theorem v_f_law__law_due : Vis (defScope s_law) "_law_due" := .inl (by decide +kernel)
theorem v_f_law__law_long : Vis (defScope s_law) "_law_long" := .inr (.inl (by decide +kernel))
theorem g_f_law_len : (defScope s_law).names.lookup ("len" : Str) = some NameKind.globalImplicit := by decide +kernel
theorem l_f_law__law_due : Loc (defScope s_law) "_law_due" := loc_of (by decide +kernel)
def S_l158_17 : Scope := ⟨.function, [("_law_long", .free), ("read_ratio", .globalImplicit)], false, false, []⟩
theorem lam_l158_17 : LamX.LamS (defScope s_law) S_l158_17 := LamX.lamS_by (by decide +kernel)
theorem v_l158_17__law_long : Vis (S_l158_17) "_law_long" := vis_of (by decide +kernel)
theorem g_l158_17_read_ratio : (S_l158_17).names.lookup ("read_ratio" : Str) = some NameKind.globalImplicit := by decide +kernel
theorem v_f__law_draw__law_drawn : Vis (defScope s__law_draw) "_law_drawn" := .inl (by decide +kernel)
theorem v_f__law_draw__law_box : Vis (defScope s__law_draw) "_law_box" := .inl (by decide +kernel)
theorem g_f__law_draw_int : (defScope s__law_draw).names.lookup ("int" : Str) = some NameKind.globalImplicit := by decide +kernel
theorem v_f__law_draw__law_many : Vis (defScope s__law_draw) "_law_many" := .inl (by decide +kernel)
theorem l_f__law_draw__law_drawn : Loc (defScope s__law_draw) "_law_drawn" := loc_of (by decide +kernel)
theorem v_f__law_draw__law_cell : Vis (defScope s__law_draw) "_law_cell" := .inl (by decide +kernel)
theorem g_f__law_draw_len : (defScope s__law_draw).names.lookup ("len" : Str) = some NameKind.globalImplicit := by decide +kernel
theorem v_f__law_draw__law_two : Vis (defScope s__law_draw) "_law_two" := .inl (by decide +kernel)
theorem v_f__law_draw__law_one : Vis (defScope s__law_draw) "_law_one" := .inl (by decide +kernel)
theorem l_f__law_draw__law_two : Loc (defScope s__law_draw) "_law_two" := loc_of (by decide +kernel)
theorem l_f__law_draw__law_one : Loc (defScope s__law_draw) "_law_one" := loc_of (by decide +kernel)
theorem l_f__law_draw__law_cell : Loc (defScope s__law_draw) "_law_cell" := loc_of (by decide +kernel)
noncomputable def b__law_draw : Sm :=
    (seq ((iff_ ((bd (bin (ordU ltI) ((bin ixV (rd 0) ((ret (.int 2))))) ((ret (.int 2)))) asB)) ((seq ((bd ((bin addU ((bin ixV (rd 0) ((ret (.int 1))))) ((ret (.int 1))))) fun u => bd ((fun u => bd (rd 0) fun x => bd ((ret (.int 1))) fun k => upC x (setI u k)) u) fun _ => ret .nx))
    (seq ((bd ((bin addU ((bin ixV (rd 0) ((ret (.int 3))))) ((bin mulU ((bin ixV (rd 0) ((ret (.int 1))))) ((ret (.int 9029))))))) fun u => bd (stv 2 u) fun _ => ret .nx))
    (seq ((iff_ ((bd (bin (ordU leI) ((bin ixV (rd 0) ((ret (.int 1))))) ((callB lenU (mcons ((bin ixV (rd 0) ((ret (.int 0))))) (ret []))))) asB)) ((bd ((bin ixV ((bin ixV (rd 0) ((ret (.int 0))))) ((bin subU ((bin ixV (rd 0) ((ret (.int 1))))) ((ret (.int 1))))))) fun u => bd (stv 2 u) fun _ => ret .nx)) ((ret .nx))))
    (seq ((iff_ ((orT ((bd (bin (ordU gtI) ((bin ixV (rd 0) ((ret (.int 1))))) ((callB lenU (mcons ((bin ixV (rd 0) ((ret (.int 0))))) (ret []))))) asB)) ((bd (bin (ordU ltI) (rd 2) ((bin powU ((ret (.int 10))) ((ret (.int 18)))))) asB)))) ((seq ((bd ((bin modU ((callB intU (mcons ((bin addU ((bin addU ((bin mulU (rd 2) ((ret (.int 48611))))) ((bin mulU ((bin ixV (rd 0) ((ret (.int 1))))) ((ret (.int 26249))))))) ((bin ixV (rd 0) ((ret (.int 3))))))) (ret [])))) ((ret (.int 2147483629))))) fun u => bd (stv 3 u) fun _ => ret .nx))
    (seq ((bd ((bin modU ((callB intU (mcons ((bin addU ((bin mulU (rd 3) (rd 3))) ((bin mulU ((bin ixV (rd 0) ((ret (.int 1))))) ((ret (.int 15991))))))) (ret [])))) ((ret (.int 1000000007))))) fun u => bd (stv 4 u) fun _ => ret .nx))
    (bd ((bin modU ((bin fdivU ((bin modU ((callB intU (mcons ((bin addU ((bin mulU (rd 4) ((ret (.int 39119))))) (rd 3))) (ret [])))) ((ret (.int 2147483563))))) ((ret (.int 23))))) (rd 1))) fun u => ret (.rt u))))) ((ret .nx))))
    (bd (rv 2) fun u => bd ((fun u => bd (rd 0) fun x => bd ((ret (.int 2))) fun k => upC x (setI u k)) u) fun _ => ret .nx)))))) ((ret .nx))))
    (seq ((bd ((bin modU ((callB intU (mcons ((bin ixV (rd 0) ((ret (.int 2))))) (ret [])))) (rd 1))) fun u => bd (stv 5 u) fun _ => ret .nx))
    (seq ((bd ((bin fdivU ((callB intU (mcons ((bin ixV (rd 0) ((ret (.int 2))))) (ret [])))) (rd 1))) fun u => bd ((fun u => bd (rd 0) fun x => bd ((ret (.int 2))) fun k => upC x (setI u k)) u) fun _ => ret .nx))
    (bd (rv 5) fun u => ret (.rt u)))))
noncomputable def m__law_draw : F := mkF 6 b__law_draw
theorem fn__law_draw {P : Program} {w : World} {G : Gx} {base : Heap} (T : Facts P G) : ∃ fd, FnM P w G base 1 (He.ga G.K "_law_draw") fd ["_law_box", "_law_many"] m__law_draw ∧ FunD G.K "_law_draw" "_law_draw" (defArgs s__law_draw) (defBody s__law_draw) (defScope s__law_draw) [] [] (He.ga G.K "_law_draw") fd := by
  obtain ⟨fd, Fd⟩ := T.d__law_draw
  exact ⟨fd, fnM Fd sc__law_draw fun cdv A outer s H E hr => 
    (sss_cons (ss_if (st_cmp oc_lt bears_C (by rfl) (SE.up (se_ixV hr.units (se0_name (i := 0) rfl v_f__law_draw__law_box) (SE.up se_int))) (SE.up se_int)) (sss_cons (ss_asg (se_bin ob_add bears_C (SE.up (se_ixV hr.units (se0_name (i := 0) rfl v_f__law_draw__law_box) (SE.up se_int))) (SE.up se_int)) (sg_at hr.units (se0_name (i := 0) rfl v_f__law_draw__law_box) se_int))
    (sss_cons (ss_set (i := 2) sc__law_draw.nd rfl l_f__law_draw__law_cell (se_bin ob_add bears_C (SE.up (se_ixV hr.units (se0_name (i := 0) rfl v_f__law_draw__law_box) (SE.up se_int))) (SE.up (se_bin ob_mul bears_C (SE.up (se_ixV hr.units (se0_name (i := 0) rfl v_f__law_draw__law_box) (SE.up se_int))) (SE.up se_int)))) (by rfl) (.inl rfl))
    (sss_cons (ss_if (st_cmp oc_le bears_C (by rfl) (SE.up (se_ixV hr.units (se0_name (i := 0) rfl v_f__law_draw__law_box) (SE.up se_int))) (SE.up (se_callB cb_len bears_CA g_f__law_draw_len T.n_len (by decide +kernel) (sa0_cons (SE.up (se_ixV hr.units (se0_name (i := 0) rfl v_f__law_draw__law_box) (SE.up se_int))) sa0_nil)))) (sss_one (ss_set (i := 2) sc__law_draw.nd rfl l_f__law_draw__law_cell (se_ixV hr.units (SE.up (se_ixV hr.units (se0_name (i := 0) rfl v_f__law_draw__law_box) (SE.up se_int))) (SE.up (se_bin ob_sub bears_C (SE.up (se_ixV hr.units (se0_name (i := 0) rfl v_f__law_draw__law_box) (SE.up se_int))) (SE.up se_int)))) (by rfl) (.inl rfl))) sss_nil)
    (sss_cons (ss_if (STw.st (st_or (st_cmp oc_gt bears_C (by rfl) (SE.up (se_ixV hr.units (se0_name (i := 0) rfl v_f__law_draw__law_box) (SE.up se_int))) (SE.up (se_callB cb_len bears_CA g_f__law_draw_len T.n_len (by decide +kernel) (sa0_cons (SE.up (se_ixV hr.units (se0_name (i := 0) rfl v_f__law_draw__law_box) (SE.up se_int))) sa0_nil)))) (st_or1 (st_cmp oc_lt bears_C (by rfl) (se0_name (i := 2) rfl v_f__law_draw__law_cell) (SE.up (se_bin ob_pow bears_C (SE.up se_int) (SE.up se_int))))))) (sss_cons (ss_set (i := 3) sc__law_draw.nd rfl l_f__law_draw__law_one (se_bin ob_mod bears_C (SE.up (se_callTy cb_int bears_CA g_f__law_draw_int T.n_int (by decide +kernel) (sa0_cons (SE.up (se_bin ob_add bears_C (SE.up (se_bin ob_add bears_C (SE.up (se_bin ob_mul bears_C (se0_name (i := 2) rfl v_f__law_draw__law_cell) (SE.up se_int))) (SE.up (se_bin ob_mul bears_C (SE.up (se_ixV hr.units (se0_name (i := 0) rfl v_f__law_draw__law_box) (SE.up se_int))) (SE.up se_int))))) (SE.up (se_ixV hr.units (se0_name (i := 0) rfl v_f__law_draw__law_box) (SE.up se_int))))) sa0_nil))) (SE.up se_int)) (by rfl) (.inl rfl))
    (sss_cons (ss_set (i := 4) sc__law_draw.nd rfl l_f__law_draw__law_two (se_bin ob_mod bears_C (SE.up (se_callTy cb_int bears_CA g_f__law_draw_int T.n_int (by decide +kernel) (sa0_cons (SE.up (se_bin ob_add bears_C (SE.up (se_bin ob_mul bears_C (se0_name (i := 3) rfl v_f__law_draw__law_one) (se0_name (i := 3) rfl v_f__law_draw__law_one))) (SE.up (se_bin ob_mul bears_C (SE.up (se_ixV hr.units (se0_name (i := 0) rfl v_f__law_draw__law_box) (SE.up se_int))) (SE.up se_int))))) sa0_nil))) (SE.up se_int)) (by rfl) (.inl rfl))
    (sss_one (ss_ret (se_bin ob_mod bears_C (SE.up (se_bin ob_fdiv bears_C (SE.up (se_bin ob_mod bears_C (SE.up (se_callTy cb_int bears_CA g_f__law_draw_int T.n_int (by decide +kernel) (sa0_cons (SE.up (se_bin ob_add bears_C (SE.up (se_bin ob_mul bears_C (se0_name (i := 4) rfl v_f__law_draw__law_two) (SE.up se_int))) (se0_name (i := 3) rfl v_f__law_draw__law_one))) sa0_nil))) (SE.up se_int))) (SE.up se_int))) (se0_name (i := 1) rfl v_f__law_draw__law_many)))))) sss_nil)
    (sss_one (ss_asg (se_name (i := 2) rfl v_f__law_draw__law_cell) (sg_at hr.units (se0_name (i := 0) rfl v_f__law_draw__law_box) se_int))))))) sss_nil)
    (sss_cons (ss_set (i := 5) sc__law_draw.nd rfl l_f__law_draw__law_drawn (se_bin ob_mod bears_C (SE.up (se_callTy cb_int bears_CA g_f__law_draw_int T.n_int (by decide +kernel) (sa0_cons (SE.up (se_ixV hr.units (se0_name (i := 0) rfl v_f__law_draw__law_box) (SE.up se_int))) sa0_nil))) (se0_name (i := 1) rfl v_f__law_draw__law_many)) (by rfl) (.inl rfl))
    (sss_cons (ss_asg (se_bin ob_fdiv bears_C (SE.up (se_callTy cb_int bears_CA g_f__law_draw_int T.n_int (by decide +kernel) (sa0_cons (SE.up (se_ixV hr.units (se0_name (i := 0) rfl v_f__law_draw__law_box) (SE.up se_int))) sa0_nil))) (se0_name (i := 1) rfl v_f__law_draw__law_many)) (sg_at hr.units (se0_name (i := 0) rfl v_f__law_draw__law_box) se_int))
    (sss_one (ss_ret (se_name (i := 5) rfl v_f__law_draw__law_drawn)))))), Fd⟩
theorem ok__law_draw_2 {P : Program} {w : World} {G : Gx} {base : Heap} (T : Facts P G) : FnU P w G base 1 (He.ga G.K "_law_draw") (arF 2 [] m__law_draw) := by
  obtain ⟨fd, Fn, Fd⟩ := fn__law_draw (P := P) (w := w) (base := base) T
  exact FnM.u0 2 Fn (Fd.bindsN fun _ _ _ _ _ _ us hl => match us, hl with | [_, _], _ => rfl) rfl
theorem sc__law_text : FnScope ["_law_one"] ["_law_one"] (defScope s__law_text) := ⟨rfl, rfl, rfl, by decide +kernel, rfl, by decide +kernel, by decide +kernel⟩
theorem v_f_law__law_box : Vis (defScope s_law) "_law_box" := .inl (by decide +kernel)
theorem g_f_law__law_draw : (defScope s_law).names.lookup ("_law_draw" : Str) = some NameKind.globalImplicit := by decide +kernel
theorem l_f_law__law_long : Loc (defScope s_law) "_law_long" := loc_of (by decide +kernel)
theorem v_f__law_text__law_one : Vis (defScope s__law_text) "_law_one" := .inl (by decide +kernel)
theorem g_f__law_text_str : (defScope s__law_text).names.lookup ("str" : Str) = some NameKind.globalImplicit := by decide +kernel
noncomputable def b__law_text : Sm :=
    (bd ((ifV ((bd (bin (eqU false) ((bin ixV (rd 0) ((ret (.int 1))))) ((ret (.int 1)))) asB)) ((callB strU (mcons ((bin ixV (rd 0) ((ret (.int 0))))) (ret [])))) ((bin addU ((bin addU ((callB strU (mcons ((bin ixV (rd 0) ((ret (.int 0))))) (ret [])))) ((ret (.str "/"))))) ((callB strU (mcons ((bin ixV (rd 0) ((ret (.int 1))))) (ret [])))))))) fun u => ret (.rt u))
noncomputable def m__law_text : F := mkF 1 b__law_text
theorem fn__law_text {P : Program} {w : World} {G : Gx} {base : Heap} (T : Facts P G) : ∃ fd, FnM P w G base 1 (He.ga G.K "_law_text") fd ["_law_one"] m__law_text ∧ FunD G.K "_law_text" "_law_text" (defArgs s__law_text) (defBody s__law_text) (defScope s__law_text) [] [] (He.ga G.K "_law_text") fd := by
  obtain ⟨fd, Fd⟩ := T.d__law_text
  exact ⟨fd, fnM Fd sc__law_text fun cdv A outer s H E hr => 
    (sss_one (ss_ret (se_if (st_cmp (oc_eq hr.units) bears_C (by rfl) (SE.up (se_ixV hr.units (se0_name (i := 0) rfl v_f__law_text__law_one) (SE.up se_int))) (SE.up se_int)) (se_callTy cb_str bears_CA g_f__law_text_str T.n_str (by decide +kernel) (sa0_cons (SE.up (se_ixV hr.units (se0_name (i := 0) rfl v_f__law_text__law_one) (SE.up se_int))) sa0_nil)) (se_bin ob_add bears_C (SE.up (se_bin ob_add bears_C (SE.up (se_callTy cb_str bears_CA g_f__law_text_str T.n_str (by decide +kernel) (sa0_cons (SE.up (se_ixV hr.units (se0_name (i := 0) rfl v_f__law_text__law_one) (SE.up se_int))) sa0_nil))) (SE.up se_str))) (SE.up (se_callTy cb_str bears_CA g_f__law_text_str T.n_str (by decide +kernel) (sa0_cons (SE.up (se_ixV hr.units (se0_name (i := 0) rfl v_f__law_text__law_one) (SE.up se_int))) sa0_nil))))))), Fd⟩
theorem ok__law_text_1 {P : Program} {w : World} {G : Gx} {base : Heap} (T : Facts P G) : FnU P w G base 1 (He.ga G.K "_law_text") (arF 1 [] m__law_text) := by
  obtain ⟨fd, Fn, Fd⟩ := fn__law_text (P := P) (w := w) (base := base) T
  exact FnM.u0 1 Fn (Fd.bindsN fun _ _ _ _ _ _ us hl => match us, hl with | [_], _ => rfl) rfl
theorem sc__law_neg : FnScope ["_law_one"] ["_law_one"] (defScope s__law_neg) := ⟨rfl, rfl, rfl, by decide +kernel, rfl, by decide +kernel, by decide +kernel⟩
theorem v_f_law__law_great : Vis (defScope s_law) "_law_great" := .inl (by decide +kernel)
theorem g_f_law__law_text : (defScope s_law).names.lookup ("_law_text" : Str) = some NameKind.globalImplicit := by decide +kernel
theorem g_f_law_read_ratio : (defScope s_law).names.lookup ("read_ratio" : Str) = some NameKind.globalImplicit := by decide +kernel
theorem v_f__law_neg__law_one : Vis (defScope s__law_neg) "_law_one" := .inl (by decide +kernel)
noncomputable def b__law_neg : Sm :=
    (bd ((bd (mcons ((bin subU ((ret (.int 0))) ((bin ixV (rd 0) ((ret (.int 0))))))) (mcons ((bin ixV (rd 0) ((ret (.int 1))))) (ret []))) mkT)) fun u => ret (.rt u))
noncomputable def m__law_neg : F := mkF 1 b__law_neg
theorem fn__law_neg {P : Program} {w : World} {G : Gx} {base : Heap} (T : Facts P G) : ∃ fd, FnM P w G base 1 (He.ga G.K "_law_neg") fd ["_law_one"] m__law_neg ∧ FunD G.K "_law_neg" "_law_neg" (defArgs s__law_neg) (defBody s__law_neg) (defScope s__law_neg) [] [] (He.ga G.K "_law_neg") fd := by
  obtain ⟨fd, Fd⟩ := T.d__law_neg
  exact ⟨fd, fnM Fd sc__law_neg fun cdv A outer s H E hr => 
    (sss_one (ss_ret (se_tup (sa_cons (se_bin ob_sub bears_C (SE.up se_int) (SE.up (se_ixV hr.units (se0_name (i := 0) rfl v_f__law_neg__law_one) (SE.up se_int)))) (sa_cons (se_ixV hr.units (se0_name (i := 0) rfl v_f__law_neg__law_one) (SE.up se_int)) sa_nil))))), Fd⟩
theorem ok__law_neg_1 {P : Program} {w : World} {G : Gx} {base : Heap} (T : Facts P G) : FnU P w G base 1 (He.ga G.K "_law_neg") (arF 1 [] m__law_neg) := by
  obtain ⟨fd, Fn, Fd⟩ := fn__law_neg (P := P) (w := w) (base := base) T
  exact FnM.u0 1 Fn (Fd.bindsN fun _ _ _ _ _ _ us hl => match us, hl with | [_], _ => rfl) rfl
theorem sc__law_q : FnScope ["_law_top", "_law_under", "_law_one", "_law_other"] ["_law_top", "_law_under"] (defScope s__law_q) := ⟨rfl, rfl, rfl, by decide +kernel, rfl, by decide +kernel, by decide +kernel⟩
theorem g_f_law__law_neg : (defScope s_law).names.lookup ("_law_neg" : Str) = some NameKind.globalImplicit := by decide +kernel
theorem v_f__law_q__law_under : Vis (defScope s__law_q) "_law_under" := .inl (by decide +kernel)
theorem v_f__law_q__law_one : Vis (defScope s__law_q) "_law_one" := .inl (by decide +kernel)
theorem v_f__law_q__law_top : Vis (defScope s__law_q) "_law_top" := .inl (by decide +kernel)
theorem l_f__law_q__law_one : Loc (defScope s__law_q) "_law_one" := loc_of (by decide +kernel)
theorem v_f__law_q__law_other : Vis (defScope s__law_q) "_law_other" := .inl (by decide +kernel)
theorem g_f__law_q_int : (defScope s__law_q).names.lookup ("int" : Str) = some NameKind.globalImplicit := by decide +kernel
theorem ll_f__law_q__law_one : (defScope s__law_q).names.lookup ("_law_one" : Str) = some NameKind.local := by decide +kernel
theorem ll_f__law_q__law_other : (defScope s__law_q).names.lookup ("_law_other" : Str) = some NameKind.local := by decide +kernel
theorem g_f__law_q_abs : (defScope s__law_q).names.lookup ("abs" : Str) = some NameKind.globalImplicit := by decide +kernel
noncomputable def x__law_q_1t : M Bool := (bd (bin (ordU gtI) (rd 3) ((ret (.int 0)))) asB)
theorem X__law_q_1t (s : MS) : x__law_q_1t s = ((bd (bin (ordU gtI) (rd 3) ((ret (.int 0)))) asB) : M Bool) s := (rfl)
noncomputable def x__law_q_1b : Sm := (par2 2 3 (mcons (rv 3) (mcons ((bin modU ((callB intU (mcons (rd 2) (ret [])))) (rd 3))) (ret []))))
theorem X__law_q_1b (s : MS) : x__law_q_1b s = ((par2 2 3 (mcons (rv 3) (mcons ((bin modU ((callB intU (mcons (rd 2) (ret [])))) (rd 3))) (ret [])))) : Sm) s := (rfl)
noncomputable def x__law_q_1 : Sm := whileM (x__law_q_1t) (x__law_q_1b)
theorem X__law_q_1 (s : MS) : x__law_q_1 s = (whileM (x__law_q_1t) (x__law_q_1b) : Sm) s := (rfl)
noncomputable def b__law_q : Sm :=
    (seq ((par2 2 3 (mcons ((callB absU (mcons (rd 0) (ret [])))) (mcons ((callB absU (mcons (rd 1) (ret [])))) (ret [])))))
    (seq ((x__law_q_1))
    (seq ((iff_ ((bd (bin (ordU ltI) (rd 1) ((ret (.int 0)))) asB)) ((bd ((bin subU ((ret (.int 0))) (rd 2))) fun u => bd (stv 2 u) fun _ => ret .nx)) ((ret .nx))))
    (bd ((bd (mcons ((bin fdivU (rd 0) (rd 2))) (mcons ((bin fdivU (rd 1) (rd 2))) (ret []))) mkT)) fun u => ret (.rt u)))))
noncomputable def m__law_q : F := mkF 4 b__law_q
theorem fn__law_q {P : Program} {w : World} {G : Gx} {base : Heap} (T : Facts P G) : ∃ fd, FnM P w G base 1 (He.ga G.K "_law_q") fd ["_law_top", "_law_under"] m__law_q ∧ FunD G.K "_law_q" "_law_q" (defArgs s__law_q) (defBody s__law_q) (defScope s__law_q) [] [] (He.ga G.K "_law_q") fd := by
  obtain ⟨fd, Fd⟩ := T.d__law_q
  exact ⟨fd, fnM Fd sc__law_q fun cdv A outer s H E hr => 
    (sss_cons (ss_par2 (i := 2) (j := 3) rfl sc__law_q.nd rfl rfl (by decide) ll_f__law_q__law_one ll_f__law_q__law_other (sa_cons (se_callB cb_abs bears_CA g_f__law_q_abs T.n_abs (by decide +kernel) (sa0_cons (se0_name (i := 0) rfl v_f__law_q__law_top) sa0_nil)) (sa_cons (se_callB cb_abs bears_CA g_f__law_q_abs T.n_abs (by decide +kernel) (sa0_cons (se0_name (i := 1) rfl v_f__law_q__law_under) sa0_nil)) sa_nil)) (by rfl))
    (sss_cons (ss_while (passes_of rfl) (st_cmp oc_gt bears_C (by rfl) (se0_name (i := 3) rfl v_f__law_q__law_other) (SE.up se_int)) (sss_one (ss_par2 (i := 2) (j := 3) rfl sc__law_q.nd rfl rfl (by decide) ll_f__law_q__law_one ll_f__law_q__law_other (sa_cons (se_name (i := 3) rfl v_f__law_q__law_other) (sa_cons (se_bin ob_mod bears_C (SE.up (se_callTy cb_int bears_CA g_f__law_q_int T.n_int (by decide +kernel) (sa0_cons (se0_name (i := 2) rfl v_f__law_q__law_one) sa0_nil))) (se0_name (i := 3) rfl v_f__law_q__law_other)) sa_nil)) (by rfl))))
    (sss_cons (ss_if (st_cmp oc_lt bears_C (by rfl) (se0_name (i := 1) rfl v_f__law_q__law_under) (SE.up se_int)) (sss_one (ss_set (i := 2) sc__law_q.nd rfl l_f__law_q__law_one (se_bin ob_sub bears_C (SE.up se_int) (se0_name (i := 2) rfl v_f__law_q__law_one)) (by rfl) (.inl rfl))) sss_nil)
    (sss_one (ss_ret (se_tup (sa_cons (se_bin ob_fdiv bears_C (se0_name (i := 0) rfl v_f__law_q__law_top) (se0_name (i := 2) rfl v_f__law_q__law_one)) (sa_cons (se_bin ob_fdiv bears_C (se0_name (i := 1) rfl v_f__law_q__law_under) (se0_name (i := 2) rfl v_f__law_q__law_one)) sa_nil)))))))), Fd⟩
theorem ok__law_q_2 {P : Program} {w : World} {G : Gx} {base : Heap} (T : Facts P G) : FnU P w G base 1 (He.ga G.K "_law_q") (arF 2 [] m__law_q) := by
  obtain ⟨fd, Fn, Fd⟩ := fn__law_q (P := P) (w := w) (base := base) T
  exact FnM.u0 2 Fn (Fd.bindsN fun _ _ _ _ _ _ us hl => match us, hl with | [_, _], _ => rfl) rfl
theorem sc__law_like : FnScope ["_law_found", "_law_due", "_law_at"] ["_law_found", "_law_due"] (defScope s__law_like) := ⟨rfl, rfl, rfl, by decide +kernel, rfl, by decide +kernel, by decide +kernel⟩
theorem g_f_law__law_q : (defScope s_law).names.lookup ("_law_q" : Str) = some NameKind.globalImplicit := by decide +kernel
theorem l_f_law__law_great : Loc (defScope s_law) "_law_great" := loc_of (by decide +kernel)
theorem g_f__law_like_bool : (defScope s__law_like).names.lookup ("bool" : Str) = some NameKind.globalImplicit := by decide +kernel
theorem v_f__law_like__law_found : Vis (defScope s__law_like) "_law_found" := .inr (.inl (by decide +kernel))
theorem g_f__law_like_isinstance : (defScope s__law_like).names.lookup ("isinstance" : Str) = some NameKind.globalImplicit := by decide +kernel
theorem v_f__law_like__law_due : Vis (defScope s__law_like) "_law_due" := .inr (.inl (by decide +kernel))
theorem g_f__law_like_tuple : (defScope s__law_like).names.lookup ("tuple" : Str) = some NameKind.globalImplicit := by decide +kernel
theorem g_f__law_like_list : (defScope s__law_like).names.lookup ("list" : Str) = some NameKind.globalImplicit := by decide +kernel
theorem g_f__law_like_len : (defScope s__law_like).names.lookup ("len" : Str) = some NameKind.globalImplicit := by decide +kernel
theorem g_f__law_like_range : (defScope s__law_like).names.lookup ("range" : Str) = some NameKind.globalImplicit := by decide +kernel
def S_c103_19 : Scope := ⟨.function, [(".0", .local), ("_law_at", .local), ("_law_like", .globalImplicit), ("_law_due", .free), ("_law_found", .free)], false, false, []⟩
theorem B_c103_19 : BlkOk ["_law_found", "_law_due", "_law_at"] (defScope s__law_like) S_c103_19 [("_law_at", 2)] := blkOk_by (by decide +kernel)
theorem l_c103_19__law_at : Loc (rlb S_c103_19 (defScope s__law_like)) "_law_at" := loc_of (by decide +kernel)
theorem ll_c103_19__law_at : (rlb S_c103_19 (defScope s__law_like)).names.lookup ("_law_at" : Str) = some NameKind.local := by decide +kernel
theorem v_c103_19__law_due : Vis (rlb S_c103_19 (defScope s__law_like)) "_law_due" := vis_of (by decide +kernel)
theorem v_c103_19__law_at : Vis (rlb S_c103_19 (defScope s__law_like)) "_law_at" := vis_of (by decide +kernel)
theorem v_c103_19__law_found : Vis (rlb S_c103_19 (defScope s__law_like)) "_law_found" := vis_of (by decide +kernel)
theorem g_c103_19__law_like : (rlb S_c103_19 (defScope s__law_like)).names.lookup ("_law_like" : Str) = some NameKind.globalImplicit := by decide +kernel
theorem g_f__law_like_all : (defScope s__law_like).names.lookup ("all" : Str) = some NameKind.globalImplicit := by decide +kernel
noncomputable def x__law_like_1b (r : F) : M U := (bd (mcons ((bin ixV (rd 0) (rd 2))) (mcons ((bin ixV (rd 1) (rd 2))) (ret []))) (callF (arF 2 [] r)))
theorem X__law_like_1b (r : F) (s : MS) : x__law_like_1b r s = ((bd (mcons ((bin ixV (rd 0) (rd 2))) (mcons ((bin ixV (rd 1) (rd 2))) (ret []))) (callF (arF 2 [] r))) : M U) s := (rfl)
noncomputable def x__law_like_1 (r : F) : M U := lcM [2] (bd (mcons ((callB lenU (mcons (rd 1) (ret [])))) (ret [])) rng1) (stv 2) (ret true) (x__law_like_1b r)
theorem X__law_like_1 (r : F) (s : MS) : x__law_like_1 r s = (lcM [2] (bd (mcons ((callB lenU (mcons (rd 1) (ret [])))) (ret [])) rng1) (stv 2) (ret true) (x__law_like_1b r) : M U) s := (rfl)
noncomputable def b__law_like (r : F) : Sm :=
    (seq ((iff_ ((bd ((callB (isiU ktL) (mcons (rd 1) (mcons ((bd (mcons ((ret (.ty "list"))) (mcons ((ret (.ty "tuple"))) (ret []))) mkT)) (ret []))))) asB)) ((seq ((iff_ ((bd (bin (eqU true) ((callB (isiU ktL) (mcons (rd 0) (mcons ((ret (.ty "list"))) (ret []))))) ((callB (isiU ktL) (mcons (rd 1) (mcons ((ret (.ty "list"))) (ret [])))))) asB)) ((bd ((ret (.bl false))) fun u => ret (.rt u))) ((ret .nx))))
    (seq ((iff_ ((bd (bin (eqU true) ((callB (isiU ktL) (mcons (rd 0) (mcons ((ret (.ty "tuple"))) (ret []))))) ((callB (isiU ktL) (mcons (rd 1) (mcons ((ret (.ty "tuple"))) (ret [])))))) asB)) ((bd ((ret (.bl false))) fun u => ret (.rt u))) ((ret .nx))))
    (seq ((iff_ ((bd (bin (eqU true) ((callB lenU (mcons (rd 0) (ret [])))) ((callB lenU (mcons (rd 1) (ret []))))) asB)) ((bd ((ret (.bl false))) fun u => ret (.rt u))) ((ret .nx))))
    (bd ((callB allU (mcons ((x__law_like_1 r)) (ret [])))) fun u => ret (.rt u)))))) ((ret .nx))))
    (seq ((iff_ ((bd ((callB (isiU ktL) (mcons (rd 0) (mcons ((bd (mcons ((ret (.ty "list"))) (mcons ((ret (.ty "tuple"))) (ret []))) mkT)) (ret []))))) asB)) ((bd ((ret (.bl false))) fun u => ret (.rt u))) ((ret .nx))))
    (bd ((andV ((bin (eqU false) ((callB (isiU ktL) (mcons (rd 0) (mcons ((ret (.ty "bool"))) (ret []))))) ((callB (isiU ktL) (mcons (rd 1) (mcons ((ret (.ty "bool"))) (ret []))))))) ((bin (eqU false) (rd 0) (rd 1))))) fun u => ret (.rt u))))
noncomputable def m__law_like : Nat → F
  | 0 => fun _ _ => .stuck
  | k + 1 => mkF 3 (b__law_like (m__law_like k))
theorem ok__law_like_2 {P : Program} {w : World} {G : Gx} {base : Heap} (T : Facts P G) : ∀ k, FnU P w G base (0 + k) (He.ga G.K "_law_like") (arF 2 [] (m__law_like k))
  | 0 => stuckU (fun us st => by unfold arF; split <;> rfl)
  | k + 1 => by
    have ih := ok__law_like_2 (P := P) (w := w) (base := base) T k
    obtain ⟨fd, Fd⟩ := T.d__law_like
    exact FnM.u0 (k := 0 + (k + 1)) 2 (fnM (k := 0 + k) Fd sc__law_like fun cdv A outer s H E hr => 
    (sss_cons (ss_if (st_val (se_callB (cb_isi T.kt ktL_ty) bears_CA g_f__law_like_isinstance T.n_isinstance (by decide +kernel) (sa0_cons (se0_name (i := 1) rfl v_f__law_like__law_due) (sa0_cons (SE.up (se_tup (sa_cons (se_ty g_f__law_like_list T.n_list (by decide +kernel)) (sa_cons (se_ty g_f__law_like_tuple T.n_tuple (by decide +kernel)) sa_nil)))) sa0_nil)))) (sss_cons (ss_if (st_cmp (oc_ne hr.units) bears_C (by rfl) (SE.up (se_callB (cb_isi T.kt ktL_ty) bears_CA g_f__law_like_isinstance T.n_isinstance (by decide +kernel) (sa0_cons (se0_name (i := 0) rfl v_f__law_like__law_found) (sa0_cons (SE.up (se_ty g_f__law_like_list T.n_list (by decide +kernel))) sa0_nil)))) (SE.up (se_callB (cb_isi T.kt ktL_ty) bears_CA g_f__law_like_isinstance T.n_isinstance (by decide +kernel) (sa0_cons (se0_name (i := 1) rfl v_f__law_like__law_due) (sa0_cons (SE.up (se_ty g_f__law_like_list T.n_list (by decide +kernel))) sa0_nil))))) (sss_one (ss_ret se_bl)) sss_nil)
    (sss_cons (ss_if (st_cmp (oc_ne hr.units) bears_C (by rfl) (SE.up (se_callB (cb_isi T.kt ktL_ty) bears_CA g_f__law_like_isinstance T.n_isinstance (by decide +kernel) (sa0_cons (se0_name (i := 0) rfl v_f__law_like__law_found) (sa0_cons (SE.up (se_ty g_f__law_like_tuple T.n_tuple (by decide +kernel))) sa0_nil)))) (SE.up (se_callB (cb_isi T.kt ktL_ty) bears_CA g_f__law_like_isinstance T.n_isinstance (by decide +kernel) (sa0_cons (se0_name (i := 1) rfl v_f__law_like__law_due) (sa0_cons (SE.up (se_ty g_f__law_like_tuple T.n_tuple (by decide +kernel))) sa0_nil))))) (sss_one (ss_ret se_bl)) sss_nil)
    (sss_cons (ss_if (st_cmp (oc_ne hr.units) bears_C (by rfl) (SE.up (se_callB cb_len bears_CA g_f__law_like_len T.n_len (by decide +kernel) (sa0_cons (se0_name (i := 0) rfl v_f__law_like__law_found) sa0_nil))) (SE.up (se_callB cb_len bears_CA g_f__law_like_len T.n_len (by decide +kernel) (sa0_cons (se0_name (i := 1) rfl v_f__law_like__law_due) sa0_nil)))) (sss_one (ss_ret se_bl)) sss_nil)
    (sss_one (ss_ret (se_callB (cb_all rfl) bears_CA g_f__law_like_all T.n_all (by decide +kernel) (sa0_cons (SE.up (se_lc (own := [("_law_at", 2)]) rfl sc__law_like.nd (si_range1 g_f__law_like_range T.n_range (sa_cons (se_callB cb_len bears_CA g_f__law_like_len T.n_len (by decide +kernel) (sa0_cons (se0_name (i := 1) rfl v_f__law_like__law_due) sa0_nil)) sa_nil)) B_c103_19 (sgB_name (i := 2) sc__law_like.nd rfl l_c103_19__law_at (.inr ll_c103_19__law_at) (by decide)) (fun s H C cl fp => sts_nil) (fun s H C cl fp => (se_callU ih Mi.takes_W0 hr g_c103_19__law_like T.g__law_like T.k__law_like (sa_cons (se_ixV hr.units (se0_name (i := 0) rfl v_c103_19__law_found) (se0_name (i := 2) rfl v_c103_19__law_at)) (sa_cons (se_ixV hr.units (se0_name (i := 1) rfl v_c103_19__law_due) (se0_name (i := 2) rfl v_c103_19__law_at)) sa_nil)))))) sa0_nil))))))) sss_nil)
    (sss_cons (ss_if (st_val (se_callB (cb_isi T.kt ktL_ty) bears_CA g_f__law_like_isinstance T.n_isinstance (by decide +kernel) (sa0_cons (se0_name (i := 0) rfl v_f__law_like__law_found) (sa0_cons (SE.up (se_tup (sa_cons (se_ty g_f__law_like_list T.n_list (by decide +kernel)) (sa_cons (se_ty g_f__law_like_tuple T.n_tuple (by decide +kernel)) sa_nil)))) sa0_nil)))) (sss_one (ss_ret se_bl)) sss_nil)
    (sss_one (ss_ret (se_and (se_cmp (oc_eq hr.units) bears_C (by rfl) (SE.up (se_callB (cb_isi T.kt ktL_ty) bears_CA g_f__law_like_isinstance T.n_isinstance (by decide +kernel) (sa0_cons (se0_name (i := 0) rfl v_f__law_like__law_found) (sa0_cons (SE.up (se_ty g_f__law_like_bool T.n_bool (by decide +kernel))) sa0_nil)))) (SE.up (se_callB (cb_isi T.kt ktL_ty) bears_CA g_f__law_like_isinstance T.n_isinstance (by decide +kernel) (sa0_cons (se0_name (i := 1) rfl v_f__law_like__law_due) (sa0_cons (SE.up (se_ty g_f__law_like_bool T.n_bool (by decide +kernel))) sa0_nil))))) (se_one (se_cmp (oc_eq hr.units) bears_C (by rfl) (se0_name (i := 0) rfl v_f__law_like__law_found) (se0_name (i := 1) rfl v_f__law_like__law_due))))))))) (Fd.bindsN fun _ _ _ _ _ _ us hl => match us, hl with | [_, _], _ => rfl) rfl
theorem sc__law_spelled : FnScope ["_law_box", "_law_one", "_law_many"] ["_law_box", "_law_one"] (defScope s__law_spelled) := ⟨rfl, rfl, rfl, by decide +kernel, rfl, by decide +kernel, by decide +kernel⟩
theorem v_f_law__law_one : Vis (defScope s_law) "_law_one" := .inl (by decide +kernel)
theorem v_f__law_spelled__law_one : Vis (defScope s__law_spelled) "_law_one" := .inl (by decide +kernel)
theorem v_f__law_spelled__law_many : Vis (defScope s__law_spelled) "_law_many" := .inl (by decide +kernel)
theorem v_f__law_spelled__law_box : Vis (defScope s__law_spelled) "_law_box" := .inl (by decide +kernel)
theorem g_f__law_spelled__law_draw : (defScope s__law_spelled).names.lookup ("_law_draw" : Str) = some NameKind.globalImplicit := by decide +kernel
theorem l_f__law_spelled__law_many : Loc (defScope s__law_spelled) "_law_many" := loc_of (by decide +kernel)
noncomputable def b__law_spelled : Sm :=
    (seq ((iff_ ((andT ((bd (bin (eqU false) ((bin ixV (rd 1) ((ret (.int 1))))) ((ret (.int 1)))) asB)) ((bd (bin (eqU false) ((bd (mcons (rv 0) (mcons ((ret (.int 2))) (ret []))) (callF (arF 2 [] m__law_draw)))) ((ret (.int 0)))) asB)))) ((bd ((bin ixV (rd 1) ((ret (.int 0))))) fun u => ret (.rt u))) ((ret .nx))))
    (seq ((bd ((bin addU ((ret (.int 1))) ((bd (mcons (rv 0) (mcons ((ret (.int 3))) (ret []))) (callF (arF 2 [] m__law_draw)))))) fun u => bd (stv 2 u) fun _ => ret .nx))
    (bd ((bd (mcons ((bin mulU ((bin ixV (rd 1) ((ret (.int 0))))) (rd 2))) (mcons ((bin mulU ((bin ixV (rd 1) ((ret (.int 1))))) (rd 2))) (ret []))) mkT)) fun u => ret (.rt u))))
noncomputable def m__law_spelled : F := mkF 3 b__law_spelled
theorem fn__law_spelled {P : Program} {w : World} {G : Gx} {base : Heap} (T : Facts P G) : ∃ fd, FnM P w G base 2 (He.ga G.K "_law_spelled") fd ["_law_box", "_law_one"] m__law_spelled ∧ FunD G.K "_law_spelled" "_law_spelled" (defArgs s__law_spelled) (defBody s__law_spelled) (defScope s__law_spelled) [] [] (He.ga G.K "_law_spelled") fd := by
  obtain ⟨fd, Fd⟩ := T.d__law_spelled
  exact ⟨fd, fnM Fd sc__law_spelled fun cdv A outer s H E hr => 
    (sss_cons (ss_if (STw.st (st_and (st_cmp (oc_eq hr.units) bears_C (by rfl) (SE.up (se_ixV hr.units (se0_name (i := 1) rfl v_f__law_spelled__law_one) (SE.up se_int))) (SE.up se_int)) (st_and1 (st_cmp (oc_eq hr.units) bears_C (by rfl) (SE.up (se_callU (ok__law_draw_2 T) (takes_of rfl rfl rfl rfl) (hr.mono (by decide)) g_f__law_spelled__law_draw T.g__law_draw T.k__law_draw (sa_cons (se_name (i := 0) rfl v_f__law_spelled__law_box) (sa_cons se_int sa_nil)))) (SE.up se_int))))) (sss_one (ss_ret (se_ixV hr.units (se0_name (i := 1) rfl v_f__law_spelled__law_one) (SE.up se_int)))) sss_nil)
    (sss_cons (ss_set (i := 2) sc__law_spelled.nd rfl l_f__law_spelled__law_many (se_bin ob_add bears_C (SE.up se_int) (SE.up (se_callU (ok__law_draw_2 T) (takes_of rfl rfl rfl rfl) (hr.mono (by decide)) g_f__law_spelled__law_draw T.g__law_draw T.k__law_draw (sa_cons (se_name (i := 0) rfl v_f__law_spelled__law_box) (sa_cons se_int sa_nil))))) (by rfl) (.inl rfl))
    (sss_one (ss_ret (se_tup (sa_cons (se_bin ob_mul bears_C (SE.up (se_ixV hr.units (se0_name (i := 1) rfl v_f__law_spelled__law_one) (SE.up se_int))) (se0_name (i := 2) rfl v_f__law_spelled__law_many)) (sa_cons (se_bin ob_mul bears_C (SE.up (se_ixV hr.units (se0_name (i := 1) rfl v_f__law_spelled__law_one) (SE.up se_int))) (se0_name (i := 2) rfl v_f__law_spelled__law_many)) sa_nil))))))), Fd⟩
theorem ok__law_spelled_2 {P : Program} {w : World} {G : Gx} {base : Heap} (T : Facts P G) : FnU P w G base 2 (He.ga G.K "_law_spelled") (arF 2 [] m__law_spelled) := by
  obtain ⟨fd, Fn, Fd⟩ := fn__law_spelled (P := P) (w := w) (base := base) T
  exact FnM.u0 2 Fn (Fd.bindsN fun _ _ _ _ _ _ us hl => match us, hl with | [_, _], _ => rfl) rfl
theorem sc__law_small : FnScope ["_law_box"] ["_law_box"] (defScope s__law_small) := ⟨rfl, rfl, rfl, by decide +kernel, rfl, by decide +kernel, by decide +kernel⟩
theorem g_f_law__law_spelled : (defScope s_law).names.lookup ("_law_spelled" : Str) = some NameKind.globalImplicit := by decide +kernel
theorem g_f_law_ratio_text : (defScope s_law).names.lookup ("ratio_text" : Str) = some NameKind.globalImplicit := by decide +kernel
theorem g_f_law__law_like : (defScope s_law).names.lookup ("_law_like" : Str) = some NameKind.globalImplicit := by decide +kernel
theorem l_f_law__law_text_here : Loc (defScope s_law) "_law_text_here" := loc_of (by decide +kernel)
theorem v_f__law_number__law_box : Vis (defScope s__law_number) "_law_box" := .inl (by decide +kernel)
theorem g_f__law_number__law_draw : (defScope s__law_number).names.lookup ("_law_draw" : Str) = some NameKind.globalImplicit := by decide +kernel
theorem g_f__law_number__law_q : (defScope s__law_number).names.lookup ("_law_q" : Str) = some NameKind.globalImplicit := by decide +kernel
theorem v_f__law_small__law_box : Vis (defScope s__law_small) "_law_box" := .inl (by decide +kernel)
theorem g_f__law_small__law_draw : (defScope s__law_small).names.lookup ("_law_draw" : Str) = some NameKind.globalImplicit := by decide +kernel
theorem g_f__law_small__law_q : (defScope s__law_small).names.lookup ("_law_q" : Str) = some NameKind.globalImplicit := by decide +kernel
noncomputable def b__law_small : Sm :=
    (seq ((iff_ ((bd (bin (eqU false) ((bd (mcons (rv 0) (mcons ((ret (.int 2))) (ret []))) (callF (arF 2 [] m__law_draw)))) ((ret (.int 0)))) asB)) ((bd ((bd (mcons ((bin subU ((bd (mcons (rv 0) (mcons ((ret (.int 7))) (ret []))) (callF (arF 2 [] m__law_draw)))) ((ret (.int 3))))) (mcons ((ret (.int 1))) (ret []))) mkT)) fun u => ret (.rt u))) ((ret .nx))))
    (bd ((bd (mcons ((bin subU ((bd (mcons (rv 0) (mcons ((ret (.int 15))) (ret []))) (callF (arF 2 [] m__law_draw)))) ((ret (.int 7))))) (mcons ((bin addU ((ret (.int 1))) ((bd (mcons (rv 0) (mcons ((ret (.int 5))) (ret []))) (callF (arF 2 [] m__law_draw)))))) (ret []))) (callF (arF 2 [] m__law_q)))) fun u => ret (.rt u)))
noncomputable def m__law_small : F := mkF 1 b__law_small
theorem fn__law_small {P : Program} {w : World} {G : Gx} {base : Heap} (T : Facts P G) : ∃ fd, FnM P w G base 2 (He.ga G.K "_law_small") fd ["_law_box"] m__law_small ∧ FunD G.K "_law_small" "_law_small" (defArgs s__law_small) (defBody s__law_small) (defScope s__law_small) [] [] (He.ga G.K "_law_small") fd := by
  obtain ⟨fd, Fd⟩ := T.d__law_small
  exact ⟨fd, fnM Fd sc__law_small fun cdv A outer s H E hr => 
    (sss_cons (ss_if (st_cmp (oc_eq hr.units) bears_C (by rfl) (SE.up (se_callU (ok__law_draw_2 T) (takes_of rfl rfl rfl rfl) (hr.mono (by decide)) g_f__law_small__law_draw T.g__law_draw T.k__law_draw (sa_cons (se_name (i := 0) rfl v_f__law_small__law_box) (sa_cons se_int sa_nil)))) (SE.up se_int)) (sss_one (ss_ret (se_tup (sa_cons (se_bin ob_sub bears_C (SE.up (se_callU (ok__law_draw_2 T) (takes_of rfl rfl rfl rfl) (hr.mono (by decide)) g_f__law_small__law_draw T.g__law_draw T.k__law_draw (sa_cons (se_name (i := 0) rfl v_f__law_small__law_box) (sa_cons se_int sa_nil)))) (SE.up se_int)) (sa_cons se_int sa_nil))))) sss_nil)
    (sss_one (ss_ret (se_callU (ok__law_q_2 T) (takes_of rfl rfl rfl rfl) (hr.mono (by decide)) g_f__law_small__law_q T.g__law_q T.k__law_q (sa_cons (se_bin ob_sub bears_C (SE.up (se_callU (ok__law_draw_2 T) (takes_of rfl rfl rfl rfl) (hr.mono (by decide)) g_f__law_small__law_draw T.g__law_draw T.k__law_draw (sa_cons (se_name (i := 0) rfl v_f__law_small__law_box) (sa_cons se_int sa_nil)))) (SE.up se_int)) (sa_cons (se_bin ob_add bears_C (SE.up se_int) (SE.up (se_callU (ok__law_draw_2 T) (takes_of rfl rfl rfl rfl) (hr.mono (by decide)) g_f__law_small__law_draw T.g__law_draw T.k__law_draw (sa_cons (se_name (i := 0) rfl v_f__law_small__law_box) (sa_cons se_int sa_nil))))) sa_nil)))))), Fd⟩
theorem ok__law_small_1 {P : Program} {w : World} {G : Gx} {base : Heap} (T : Facts P G) : FnU P w G base 2 (He.ga G.K "_law_small") (arF 1 [] m__law_small) := by
  obtain ⟨fd, Fn, Fd⟩ := fn__law_small (P := P) (w := w) (base := base) T
  exact FnM.u0 1 Fn (Fd.bindsN fun _ _ _ _ _ _ us hl => match us, hl with | [_], _ => rfl) rfl
theorem sc__law_number : FnScope ["_law_box"] ["_law_box"] (defScope s__law_number) := ⟨rfl, rfl, rfl, by decide +kernel, rfl, by decide +kernel, by decide +kernel⟩
theorem g_f__law_number__law_small : (defScope s__law_number).names.lookup ("_law_small" : Str) = some NameKind.globalImplicit := by decide +kernel
noncomputable def b__law_number : Sm :=
    (seq ((iff_ ((bd (bin (ordU gtI) ((bd (mcons (rv 0) (mcons ((ret (.int 9))) (ret []))) (callF (arF 2 [] m__law_draw)))) ((ret (.int 0)))) asB)) ((bd ((bd (mcons (rv 0) (ret [])) (callF (arF 1 [] m__law_small)))) fun u => ret (.rt u))) ((ret .nx))))
    (bd ((bd (mcons ((bin subU ((bd (mcons (rv 0) (mcons ((bin mulU ((ret (.int 2))) ((bin powU ((ret (.int 10))) ((ret (.int 9))))))) (ret []))) (callF (arF 2 [] m__law_draw)))) ((bin powU ((ret (.int 10))) ((ret (.int 9))))))) (mcons ((bin addU ((ret (.int 1))) ((bd (mcons (rv 0) (mcons ((bin powU ((ret (.int 10))) ((ret (.int 9))))) (ret []))) (callF (arF 2 [] m__law_draw)))))) (ret []))) (callF (arF 2 [] m__law_q)))) fun u => ret (.rt u)))
noncomputable def m__law_number : F := mkF 1 b__law_number
theorem fn__law_number {P : Program} {w : World} {G : Gx} {base : Heap} (T : Facts P G) : ∃ fd, FnM P w G base 3 (He.ga G.K "_law_number") fd ["_law_box"] m__law_number ∧ FunD G.K "_law_number" "_law_number" (defArgs s__law_number) (defBody s__law_number) (defScope s__law_number) [] [] (He.ga G.K "_law_number") fd := by
  obtain ⟨fd, Fd⟩ := T.d__law_number
  exact ⟨fd, fnM Fd sc__law_number fun cdv A outer s H E hr => 
    (sss_cons (ss_if (st_cmp oc_gt bears_C (by rfl) (SE.up (se_callU (ok__law_draw_2 T) (takes_of rfl rfl rfl rfl) (hr.mono (by decide)) g_f__law_number__law_draw T.g__law_draw T.k__law_draw (sa_cons (se_name (i := 0) rfl v_f__law_number__law_box) (sa_cons se_int sa_nil)))) (SE.up se_int)) (sss_one (ss_ret (se_callU (ok__law_small_1 T) (takes_of rfl rfl rfl rfl) (hr.mono (by decide)) g_f__law_number__law_small T.g__law_small T.k__law_small (sa_cons (se_name (i := 0) rfl v_f__law_number__law_box) sa_nil)))) sss_nil)
    (sss_one (ss_ret (se_callU (ok__law_q_2 T) (takes_of rfl rfl rfl rfl) (hr.mono (by decide)) g_f__law_number__law_q T.g__law_q T.k__law_q (sa_cons (se_bin ob_sub bears_C (SE.up (se_callU (ok__law_draw_2 T) (takes_of rfl rfl rfl rfl) (hr.mono (by decide)) g_f__law_number__law_draw T.g__law_draw T.k__law_draw (sa_cons (se_name (i := 0) rfl v_f__law_number__law_box) (sa_cons (se_bin ob_mul bears_C (SE.up se_int) (SE.up (se_bin ob_pow bears_C (SE.up se_int) (SE.up se_int)))) sa_nil)))) (SE.up (se_bin ob_pow bears_C (SE.up se_int) (SE.up se_int)))) (sa_cons (se_bin ob_add bears_C (SE.up se_int) (SE.up (se_callU (ok__law_draw_2 T) (takes_of rfl rfl rfl rfl) (hr.mono (by decide)) g_f__law_number__law_draw T.g__law_draw T.k__law_draw (sa_cons (se_name (i := 0) rfl v_f__law_number__law_box) (sa_cons (se_bin ob_pow bears_C (SE.up se_int) (SE.up se_int)) sa_nil))))) sa_nil)))))), Fd⟩
theorem ok__law_number_1 {P : Program} {w : World} {G : Gx} {base : Heap} (T : Facts P G) : FnU P w G base 3 (He.ga G.K "_law_number") (arF 1 [] m__law_number) := by
  obtain ⟨fd, Fn, Fd⟩ := fn__law_number (P := P) (w := w) (base := base) T
  exact FnM.u0 1 Fn (Fd.bindsN fun _ _ _ _ _ _ us hl => match us, hl with | [_], _ => rfl) rfl
theorem sc__law_begin : FnScope ["_law_script", "_law_cell", "_law_cells", "_law_salt"] ["_law_script"] (defScope s__law_begin) := ⟨rfl, rfl, rfl, by decide +kernel, rfl, by decide +kernel, by decide +kernel⟩
theorem g_f_law__law_number : (defScope s_law).names.lookup ("_law_number" : Str) = some NameKind.globalImplicit := by decide +kernel
theorem l_f_law__law_one : Loc (defScope s_law) "_law_one" := loc_of (by decide +kernel)
theorem v_f__law_begin__law_salt : Vis (defScope s__law_begin) "_law_salt" := .inl (by decide +kernel)
theorem v_f__law_begin__law_cells : Vis (defScope s__law_begin) "_law_cells" := .inl (by decide +kernel)
theorem l_f__law_begin__law_cell : Loc (defScope s__law_begin) "_law_cell" := loc_of (by decide +kernel)
theorem v_f__law_begin__law_cell : Vis (defScope s__law_begin) "_law_cell" := .inl (by decide +kernel)
theorem g_f__law_begin_int : (defScope s__law_begin).names.lookup ("int" : Str) = some NameKind.globalImplicit := by decide +kernel
theorem l_f__law_begin__law_salt : Loc (defScope s__law_begin) "_law_salt" := loc_of (by decide +kernel)
theorem g_f__law_begin_len : (defScope s__law_begin).names.lookup ("len" : Str) = some NameKind.globalImplicit := by decide +kernel
theorem v_f__law_begin__law_script : Vis (defScope s__law_begin) "_law_script" := .inl (by decide +kernel)
def S_c76_17 : Scope := ⟨.function, [(".0", .local), ("_law_cell", .local), ("int", .globalImplicit)], false, false, []⟩
theorem B_c76_17 : BlkOk ["_law_script", "_law_cell", "_law_cells", "_law_salt"] (defScope s__law_begin) S_c76_17 [("_law_cell", 1)] := blkOk_by (by decide +kernel)
theorem l_c76_17__law_cell : Loc (rlb S_c76_17 (defScope s__law_begin)) "_law_cell" := loc_of (by decide +kernel)
theorem ll_c76_17__law_cell : (rlb S_c76_17 (defScope s__law_begin)).names.lookup ("_law_cell" : Str) = some NameKind.local := by decide +kernel
theorem v_c76_17__law_cell : Vis (rlb S_c76_17 (defScope s__law_begin)) "_law_cell" := vis_of (by decide +kernel)
theorem g_c76_17_int : (rlb S_c76_17 (defScope s__law_begin)).names.lookup ("int" : Str) = some NameKind.globalImplicit := by decide +kernel
theorem ll_f__law_begin__law_cells : (defScope s__law_begin).names.lookup ("_law_cells" : Str) = some NameKind.local := by decide +kernel
noncomputable def x__law_begin_1b : Sm := (bd ((bin modU ((callB intU (mcons ((bin addU ((bin mulU (rd 3) ((ret (.int 7411))))) (rd 1))) (ret [])))) ((ret (.int 2147483497))))) fun u => bd (stv 3 u) fun _ => ret .nx)
theorem X__law_begin_1b (s : MS) : x__law_begin_1b s = ((bd ((bin modU ((callB intU (mcons ((bin addU ((bin mulU (rd 3) ((ret (.int 7411))))) (rd 1))) (ret [])))) ((ret (.int 2147483497))))) fun u => bd (stv 3 u) fun _ => ret .nx) : Sm) s := (rfl)
noncomputable def x__law_begin_1 : Sm := bd (bd (rv 2) itemsU) fun xs => forL (stv 1) (x__law_begin_1b) xs
theorem X__law_begin_1 (s : MS) : x__law_begin_1 s = (bd (bd (rv 2) itemsU) fun xs => forL (stv 1) (x__law_begin_1b) xs : Sm) s := (rfl)
noncomputable def x__law_begin_2b : M U := (callB intU (mcons (rd 1) (ret [])))
theorem X__law_begin_2b (s : MS) : x__law_begin_2b s = ((callB intU (mcons (rd 1) (ret []))) : M U) s := (rfl)
noncomputable def x__law_begin_2 : M U := lcM [1] (bd ((bd (rd 0) fun u => bd (ret none) fun l => bd (bd ((ret (.int 63))) asO) fun h => bd (ct u) (slcU l h))) itemsU) (stv 1) (ret true) (x__law_begin_2b)
theorem X__law_begin_2 (s : MS) : x__law_begin_2 s = (lcM [1] (bd ((bd (rd 0) fun u => bd (ret none) fun l => bd (bd ((ret (.int 63))) asO) fun h => bd (ct u) (slcU l h))) itemsU) (stv 1) (ret true) (x__law_begin_2b) : M U) s := (rfl)
noncomputable def b__law_begin : Sm :=
    (seq ((bd ((x__law_begin_2)) fun u => bd (stv 2 u) fun _ => ret .nx))
    (seq ((bd ((bin addU ((ret (.int 10030))) ((bin mulU ((ret (.int 97))) ((callB lenU (mcons (rd 2) (ret [])))))))) fun u => bd (stv 3 u) fun _ => ret .nx))
    (seq ((x__law_begin_1))
    (bd ((bd (bd (mcons (rv 2) (mcons ((ret (.int 0))) (mcons ((ret (.int 0))) (mcons (rv 3) (ret []))))) mkL) alc)) fun u => ret (.rt u)))))
noncomputable def m__law_begin : F := mkF 4 b__law_begin
theorem fn__law_begin {P : Program} {w : World} {G : Gx} {base : Heap} (T : Facts P G) : ∃ fd, FnM P w G base 1 (He.ga G.K "_law_begin") fd ["_law_script"] m__law_begin ∧ FunD G.K "_law_begin" "_law_begin" (defArgs s__law_begin) (defBody s__law_begin) (defScope s__law_begin) [] [] (He.ga G.K "_law_begin") fd := by
  obtain ⟨fd, Fd⟩ := T.d__law_begin
  exact ⟨fd, fnM Fd sc__law_begin fun cdv A outer s H E hr => 
    (sss_cons (ss_setLc (i := 2) (own := [("_law_cell", 1)]) rfl sc__law_begin.nd rfl ll_f__law_begin__law_cells (sw_true rfl ll_f__law_begin__law_cells rfl (by decide +kernel)) (si_any (se_slice (se0_name (i := 0) rfl v_f__law_begin__law_script) so_none (so_some se_int))) B_c76_17 (sgB_name (i := 1) sc__law_begin.nd rfl l_c76_17__law_cell (.inr ll_c76_17__law_cell) (by decide)) (fun s H C cl fp => sts_nil) (fun s H C cl fp => (se_callTy cb_int bears_CA g_c76_17_int T.n_int (by decide +kernel) (sa0_cons (se0_name (i := 1) rfl v_c76_17__law_cell) sa0_nil))))
    (sss_cons (ss_set (i := 3) sc__law_begin.nd rfl l_f__law_begin__law_salt (se_bin ob_add bears_C (SE.up se_int) (SE.up (se_bin ob_mul bears_C (SE.up se_int) (SE.up (se_callB cb_len bears_CA g_f__law_begin_len T.n_len (by decide +kernel) (sa0_cons (se0_name (i := 2) rfl v_f__law_begin__law_cells) sa0_nil)))))) (by rfl) (.inl rfl))
    (sss_cons (ss_for (passes_of rfl) rfl (si_any (se_name (i := 2) rfl v_f__law_begin__law_cells)) (sg_name (i := 1) sc__law_begin.nd rfl l_f__law_begin__law_cell (.inl rfl)) (sss_one (ss_set (i := 3) sc__law_begin.nd rfl l_f__law_begin__law_salt (se_bin ob_mod bears_C (SE.up (se_callTy cb_int bears_CA g_f__law_begin_int T.n_int (by decide +kernel) (sa0_cons (SE.up (se_bin ob_add bears_C (SE.up (se_bin ob_mul bears_C (se0_name (i := 3) rfl v_f__law_begin__law_salt) (SE.up se_int))) (se0_name (i := 1) rfl v_f__law_begin__law_cell))) sa0_nil))) (SE.up se_int)) (by rfl) (.inl rfl))))
    (sss_one (ss_ret (SEN.alc (sen_lst (sa_cons (se_name (i := 2) rfl v_f__law_begin__law_cells) (sa_cons se_int (sa_cons se_int (sa_cons (se_name (i := 3) rfl v_f__law_begin__law_salt) sa_nil))))))))))), Fd⟩
theorem ok__law_begin_1 {P : Program} {w : World} {G : Gx} {base : Heap} (T : Facts P G) : FnU P w G base 1 (He.ga G.K "_law_begin") (arF 1 [] m__law_begin) := by
  obtain ⟨fd, Fn, Fd⟩ := fn__law_begin (P := P) (w := w) (base := base) T
  exact FnM.u0 1 Fn (Fd.bindsN fun _ _ _ _ _ _ us hl => match us, hl with | [_], _ => rfl) rfl
theorem sc_law : FnScope ["_law_script", "_law_box", "_law_one", "_law_text_here", "_law_great", "_law_due", "_law_wrong", "_law_long", "_law_row"] ["_law_script"] (defScope s_law) := ⟨rfl, rfl, rfl, by decide +kernel, rfl, by decide +kernel, by decide +kernel⟩
theorem v_f_law__law_script : Vis (defScope s_law) "_law_script" := .inl (by decide +kernel)
theorem g_f_law__law_begin : (defScope s_law).names.lookup ("_law_begin" : Str) = some NameKind.globalImplicit := by decide +kernel
theorem l_f_law__law_box : Loc (defScope s_law) "_law_box" := loc_of (by decide +kernel)
noncomputable def x_law_1l_k04 : M U := (bd (mcons (rv 8) (ret [])) (callF (arF 1 [] m_read_ratio)))
theorem X_law_1l_k04 (s : MS) : x_law_1l_k04 s = ((bd (mcons (rv 8) (ret [])) (callF (arF 1 [] m_read_ratio))) : M U) s := (rfl)
noncomputable def x_law_2b_k04 : Sm := (iff_ ((bd (bin (eqU true) ((toldM (arF 1 [] m__law_field) okcL "law" x_law_1l_k04)) ((bd (mcons ((ret (.str "no"))) (mcons ((ret (.str "ParseError"))) (ret []))) mkT))) asB)) ((bd ((ret (.bl false))) fun u => ret (.rt u))) ((ret .nx)))
theorem X_law_2b_k04 (s : MS) : x_law_2b_k04 s = ((iff_ ((bd (bin (eqU true) ((toldM (arF 1 [] m__law_field) okcL "law" x_law_1l_k04)) ((bd (mcons ((ret (.str "no"))) (mcons ((ret (.str "ParseError"))) (ret []))) mkT))) asB)) ((bd ((ret (.bl false))) fun u => ret (.rt u))) ((ret .nx))) : Sm) s := (rfl)
noncomputable def x_law_2_k04 : Sm := bd (bd (rv 6) itemsU) fun xs => forL (stv 8) (x_law_2b_k04) xs
theorem X_law_2_k04 (s : MS) : x_law_2_k04 s = (bd (bd (rv 6) itemsU) fun xs => forL (stv 8) (x_law_2b_k04) xs : Sm) s := (rfl)
noncomputable def x_law_3l_k04 : M U := (bd (mcons ((bin addU ((ret (.str "1/"))) (rd 7))) (ret [])) (callF (arF 1 [] m_read_ratio)))
theorem X_law_3l_k04 (s : MS) : x_law_3l_k04 s = ((bd (mcons ((bin addU ((ret (.str "1/"))) (rd 7))) (ret [])) (callF (arF 1 [] m_read_ratio))) : M U) s := (rfl)
noncomputable def x_law_4l_k04 : M U := (bd (mcons (rv 7) (ret [])) (callF (arF 1 [] m_read_ratio)))
theorem X_law_4l_k04 (s : MS) : x_law_4l_k04 s = ((bd (mcons (rv 7) (ret [])) (callF (arF 1 [] m_read_ratio))) : M U) s := (rfl)
noncomputable def b_law_k04 : Sm :=
    (seq ((bd ((bd (mcons (rv 0) (ret [])) (callF (arF 1 [] m__law_begin)))) fun u => bd (stv 1 u) fun _ => ret .nx))
    (seq ((bd ((bd (mcons (rv 1) (ret [])) (callF (arF 1 [] m__law_number)))) fun u => bd (stv 2 u) fun _ => ret .nx))
    (seq ((bd ((bd (mcons (rv 2) (ret [])) (callF (arF 1 [] m__law_text)))) fun u => bd (stv 3 u) fun _ => ret .nx))
    (seq ((iff_ ((bd ((bd ((bd (mcons ((bd (mcons ((bd (mcons ((bd (mcons (rv 1) (mcons (rv 2) (ret []))) (callF (arF 2 [] m__law_spelled)))) (ret [])) (callF (arF 1 [] m_ratio_text)))) (mcons ((bd (mcons (rv 3) (ret [])) (callF (arF 1 [] m_read_ratio)))) (ret []))) mkL)) (mcons ((bd (mcons (rv 3) (mcons (rv 2) (ret []))) mkL)) (ret []))) (callF (arF 2 [] (m__law_like 6))))) asB)) fun k => ret (!k))) ((bd ((ret (.bl false))) fun u => ret (.rt u))) ((ret .nx))))
    (seq ((bd ((bd (mcons ((bin subU ((bin subU ((bin powU ((ret (.int 10))) ((ret (.int 30))))) ((ret (.int 1))))) ((bd (mcons (rv 1) (mcons ((ret (.int 5))) (ret []))) (callF (arF 2 [] m__law_draw)))))) (mcons ((bin addU ((bin powU ((ret (.int 10))) ((ret (.int 29))))) ((bd (mcons (rv 1) (mcons ((bin powU ((ret (.int 10))) ((ret (.int 9))))) (ret []))) (callF (arF 2 [] m__law_draw)))))) (ret []))) mkT)) fun u => bd (stv 4 u) fun _ => ret .nx))
    (seq ((bd ((bd (mcons ((bin ixV (rd 4) ((ret (.int 0))))) (mcons ((bin ixV (rd 4) ((ret (.int 1))))) (ret []))) (callF (arF 2 [] m__law_q)))) fun u => bd (stv 4 u) fun _ => ret .nx))
    (seq ((iff_ ((orT ((bd (bin (eqU true) ((bd (mcons ((bd (mcons (rv 4) (ret [])) (callF (arF 1 [] m__law_text)))) (ret [])) (callF (arF 1 [] m_read_ratio)))) (rd 4)) asB)) ((bd (bin (eqU true) ((bd (mcons ((bd (mcons ((bd (mcons (rv 4) (ret [])) (callF (arF 1 [] m__law_neg)))) (ret [])) (callF (arF 1 [] m__law_text)))) (ret [])) (callF (arF 1 [] m_read_ratio)))) ((bd (mcons (rv 4) (ret [])) (callF (arF 1 [] m__law_neg))))) asB)))) ((bd ((ret (.bl false))) fun u => ret (.rt u))) ((ret .nx))))
    (seq ((bd ((bin addU ((ret (.str "1"))) ((bin mulU ((ret (.str "0"))) ((bin addU ((ret (.int 29))) ((bd (mcons (rv 1) (mcons ((ret (.int 3))) (ret []))) (callF (arF 2 [] m__law_draw)))))))))) fun u => bd (stv 7 u) fun _ => ret .nx))
    (seq ((bd ((ifV ((bd (bin (eqU false) ((callB lenU (mcons (rd 7) (ret [])))) ((ret (.int 30)))) asB)) ((bd (mcons ((ret (.str "told"))) (mcons ((bd (mcons ((bin powU ((ret (.int 10))) ((ret (.int 29))))) (mcons ((ret (.int 1))) (ret []))) mkT)) (ret []))) mkT)) ((bd (mcons ((ret (.str "no"))) (mcons ((ret (.str "ParseError"))) (ret []))) mkT)))) fun u => bd (stv 5 u) fun _ => ret .nx))
    (seq ((iff_ ((bd (bin (eqU true) ((toldM (arF 1 [] m__law_field) okcL "law" x_law_4l_k04)) (rd 5)) asB)) ((bd ((ret (.bl false))) fun u => ret (.rt u))) ((ret .nx))))
    (seq ((bd ((ifV ((bd (bin (eqU false) ((callB lenU (mcons (rd 7) (ret [])))) ((ret (.int 30)))) asB)) ((bd (mcons ((ret (.str "told"))) (mcons ((bd (mcons ((ret (.int 1))) (mcons ((bin powU ((ret (.int 10))) ((ret (.int 29))))) (ret []))) mkT)) (ret []))) mkT)) ((bd (mcons ((ret (.str "no"))) (mcons ((ret (.str "ParseError"))) (ret []))) mkT)))) fun u => bd (stv 5 u) fun _ => ret .nx))
    (seq ((iff_ ((bd (bin (eqU true) ((toldM (arF 1 [] m__law_field) okcL "law" x_law_3l_k04)) (rd 5)) asB)) ((bd ((ret (.bl false))) fun u => ret (.rt u))) ((ret .nx))))
    (seq ((bd ((bd (mcons ((ret (.str ""))) (mcons ((ret (.str "-"))) (mcons ((ret (.str "/"))) (mcons ((ret (.str "1/"))) (mcons ((ret (.str "/2"))) (mcons ((ret (.str "-0"))) (mcons ((ret (.str "0/1"))) (mcons ((ret (.str "00"))) (mcons ((ret (.str "01"))) (mcons ((ret (.str "+1"))) (mcons ((ret (.str "1/0"))) (mcons ((ret (.str "2/4"))) (mcons ((ret (.str "4/2"))) (mcons ((ret (.str "1/-2"))) (mcons ((ret (.str "--1"))) (mcons ((ret (.str "1/02"))) (mcons ((ret (.str "0/2"))) (mcons ((ret (.str "-/3"))) (mcons ((ret (.str "1.5"))) (mcons ((ret (.str "a"))) (ret []))))))))))))))))))))) mkL)) fun u => bd (stv 6 u) fun _ => ret .nx))
    (seq ((bd ((bin addU (rd 6) ((bd (mcons ((bin addU ((ret (.str " "))) (rd 3))) (mcons ((bin addU (rd 3) ((ret (.str " "))))) (mcons ((bin addU (rd 3) ((ret (.str "/1"))))) (mcons ((bin addU ((ret (.str "0"))) (rd 3))) (mcons ((bin addU (rd 3) ((ret (.str "x"))))) (mcons ((bin addU ((bin addU ((ret (.str "5"))) ((bd (rd 3) fun u => bd (ret none) fun l => bd (bd ((ret (.int 0))) asO) fun h => bd (ct u) (slcU l h))))) ((ret (.str "/"))))) (mcons ((ret (.str "1 /2"))) (mcons ((ret (.str "3/3"))) (mcons ((ret (.str "1/2/3"))) (mcons ((ret (.str "-00"))) (ret []))))))))))) mkL)))) fun u => bd (stv 6 u) fun _ => ret .nx))
    (seq ((x_law_2_k04))
    (bd ((ret (.bl true))) fun u => ret (.rt u)))))))))))))))))
noncomputable def m_law_k04 : F := mkF 9 b_law_k04
theorem fnL_law {P : Program} {w : World} {G : Gx} {base : Heap} (T : Facts P G) {fd : FuncData} (Fd : FunD G.K "law" "law" (defArgs s_law) (defBody s_law) (defScope s_law) [] [] (He.ga G.K "law") fd) {c : Addr} (hcd : codeOf G.K (He.ga G.K "law") = .ref c) (TB : LamX.TabB base G.mg c (tabA G.K "law")) : FnM P w G base 8 (He.ga G.K "law") fd ["_law_script"] m_law_k04 := by
  obtain ⟨fdT, FdT⟩ := T.d__law_told
  have FdTb : L2.Binds G.K fdT ["_law_ask"] [] := FdT.bindsN fun _ _ _ _ _ _ us hl => match us, hl with | [_], _ => rfl
  exact fnMT Fd sc_law fun A outer s H E hr => 
    (sss_cons (ss_set (i := 1) sc_law.nd rfl l_f_law__law_box (se_callU (ok__law_begin_1 T) (takes_of rfl rfl rfl rfl) (hr.mono (by decide)) g_f_law__law_begin T.g__law_begin T.k__law_begin (sa_cons (se_name (i := 0) rfl v_f_law__law_script) sa_nil)) (by rfl) (.inl rfl))
    (sss_cons (ss_set (i := 2) sc_law.nd rfl l_f_law__law_one (se_callU (ok__law_number_1 T) (takes_of rfl rfl rfl rfl) (hr.mono (by decide)) g_f_law__law_number T.g__law_number T.k__law_number (sa_cons (se_name (i := 1) rfl v_f_law__law_box) sa_nil)) (by rfl) (.inl rfl))
    (sss_cons (ss_set (i := 3) sc_law.nd rfl l_f_law__law_text_here (se_callU (ok__law_text_1 T) (takes_of rfl rfl rfl rfl) (hr.mono (by decide)) g_f_law__law_text T.g__law_text T.k__law_text (sa_cons (se_name (i := 2) rfl v_f_law__law_one) sa_nil)) (by rfl) (.inl rfl))
    (sss_cons (ss_if (st_not (st_val (se_callU (ok__law_like_2 T 6) (takes_of rfl rfl rfl rfl) (hr.mono (by decide)) g_f_law__law_like T.g__law_like T.k__law_like (sa_cons (SEN.se (sen_lst (sa_cons (se_callU (ok_ratio_text_1 T) (takes_of rfl rfl rfl rfl) (hr.mono (by decide)) g_f_law_ratio_text T.g_ratio_text T.k_ratio_text (sa_cons (se_callU (ok__law_spelled_2 T) (takes_of rfl rfl rfl rfl) (hr.mono (by decide)) g_f_law__law_spelled T.g__law_spelled T.k__law_spelled (sa_cons (se_name (i := 1) rfl v_f_law__law_box) (sa_cons (se_name (i := 2) rfl v_f_law__law_one) sa_nil))) sa_nil)) (sa_cons (se_callU (ok_read_ratio_1 T) (takes_of rfl rfl rfl rfl) (hr.mono (by decide)) g_f_law_read_ratio T.g_read_ratio T.k_read_ratio (sa_cons (se_name (i := 3) rfl v_f_law__law_text_here) sa_nil)) sa_nil)))) (sa_cons (SEN.se (sen_lst (sa_cons (se_name (i := 3) rfl v_f_law__law_text_here) (sa_cons (se_name (i := 2) rfl v_f_law__law_one) sa_nil)))) sa_nil))))) (sss_one (ss_ret se_bl)) sss_nil)
    (sss_cons (ss_set (i := 4) sc_law.nd rfl l_f_law__law_great (se_tup (sa_cons (se_bin ob_sub bears_C (SE.up (se_bin ob_sub bears_C (SE.up (se_bin ob_pow bears_C (SE.up se_int) (SE.up se_int))) (SE.up se_int))) (SE.up (se_callU (ok__law_draw_2 T) (takes_of rfl rfl rfl rfl) (hr.mono (by decide)) g_f_law__law_draw T.g__law_draw T.k__law_draw (sa_cons (se_name (i := 1) rfl v_f_law__law_box) (sa_cons se_int sa_nil))))) (sa_cons (se_bin ob_add bears_C (SE.up (se_bin ob_pow bears_C (SE.up se_int) (SE.up se_int))) (SE.up (se_callU (ok__law_draw_2 T) (takes_of rfl rfl rfl rfl) (hr.mono (by decide)) g_f_law__law_draw T.g__law_draw T.k__law_draw (sa_cons (se_name (i := 1) rfl v_f_law__law_box) (sa_cons (se_bin ob_pow bears_C (SE.up se_int) (SE.up se_int)) sa_nil))))) sa_nil))) (by rfl) (.inl rfl))
    (sss_cons (ss_set (i := 4) sc_law.nd rfl l_f_law__law_great (se_callU (ok__law_q_2 T) (takes_of rfl rfl rfl rfl) (hr.mono (by decide)) g_f_law__law_q T.g__law_q T.k__law_q (sa_cons (se_ixV hr.units (se0_name (i := 4) rfl v_f_law__law_great) (SE.up se_int)) (sa_cons (se_ixV hr.units (se0_name (i := 4) rfl v_f_law__law_great) (SE.up se_int)) sa_nil))) (by rfl) (.inl rfl))
    (sss_cons (ss_if (STw.st (st_or (st_cmp (oc_ne hr.units) bears_C (by rfl) (SE.up (se_callU (ok_read_ratio_1 T) (takes_of rfl rfl rfl rfl) (hr.mono (by decide)) g_f_law_read_ratio T.g_read_ratio T.k_read_ratio (sa_cons (se_callU (ok__law_text_1 T) (takes_of rfl rfl rfl rfl) (hr.mono (by decide)) g_f_law__law_text T.g__law_text T.k__law_text (sa_cons (se_name (i := 4) rfl v_f_law__law_great) sa_nil)) sa_nil))) (se0_name (i := 4) rfl v_f_law__law_great)) (st_or1 (st_cmp (oc_ne hr.units) bears_C (by rfl) (SE.up (se_callU (ok_read_ratio_1 T) (takes_of rfl rfl rfl rfl) (hr.mono (by decide)) g_f_law_read_ratio T.g_read_ratio T.k_read_ratio (sa_cons (se_callU (ok__law_text_1 T) (takes_of rfl rfl rfl rfl) (hr.mono (by decide)) g_f_law__law_text T.g__law_text T.k__law_text (sa_cons (se_callU (ok__law_neg_1 T) (takes_of rfl rfl rfl rfl) (hr.mono (by decide)) g_f_law__law_neg T.g__law_neg T.k__law_neg (sa_cons (se_name (i := 4) rfl v_f_law__law_great) sa_nil)) sa_nil)) sa_nil))) (SE.up (se_callU (ok__law_neg_1 T) (takes_of rfl rfl rfl rfl) (hr.mono (by decide)) g_f_law__law_neg T.g__law_neg T.k__law_neg (sa_cons (se_name (i := 4) rfl v_f_law__law_great) sa_nil))))))) (sss_one (ss_ret se_bl)) sss_nil)
    (sss_cons (ss_set (i := 7) sc_law.nd rfl l_f_law__law_long (se_bin ob_add bears_C (SE.up se_str) (SE.up (se_bin ob_mul bears_C (SE.up se_str) (SE.up (se_bin ob_add bears_C (SE.up se_int) (SE.up (se_callU (ok__law_draw_2 T) (takes_of rfl rfl rfl rfl) (hr.mono (by decide)) g_f_law__law_draw T.g__law_draw T.k__law_draw (sa_cons (se_name (i := 1) rfl v_f_law__law_box) (sa_cons se_int sa_nil))))))))) (by rfl) (.inl rfl))
    (sss_cons (ss_set (i := 5) sc_law.nd rfl l_f_law__law_due (se_if (st_cmp (oc_eq hr.units) bears_C (by rfl) (SE.up (se_callB cb_len bears_CA g_f_law_len T.n_len (by decide +kernel) (sa0_cons (se0_name (i := 7) rfl v_f_law__law_long) sa0_nil))) (SE.up se_int)) (se_tup (sa_cons se_str (sa_cons (se_tup (sa_cons (se_bin ob_pow bears_C (SE.up se_int) (SE.up se_int)) (sa_cons se_int sa_nil))) sa_nil))) (se_tup (sa_cons se_str (sa_cons se_str sa_nil)))) (by rfl) (.inl rfl))
    (sss_cons (ss_if (st_cmp (oc_ne hr.units) bears_C (by rfl) (SE.up (se_toldD (k := 5) (dn := "law") T.hit g_f_law__law_told T.g__law_told FdT FdTb sc__law_told rfl (.inl (by decide +kernel)) (fun cdv => told_gives (k := 5) sc__law_told.nd rfl (.inl (by decide +kernel)) rfl (by decide +kernel) (.inl (by decide +kernel)) (fun _ => rfl) ⟨by decide +kernel, T.g_BrimError, by decide⟩ ⟨by decide +kernel, T.g_UnknownCell, by decide⟩ ⟨by decide +kernel, T.g_UnknownName, by decide⟩ ⟨by decide +kernel, T.g_NothingLeft, by decide⟩ (by decide +kernel) T.g__law_field T.k__law_field ((okh__law_field T).mono (by decide)) (hr.mono (by decide))) TB hcd rfl (hr.mono (by decide)) lam_l158_17 rfl (fun _ _ _ _ _ => rfl) (fun A outer s H E f c hr => (se_callU (ok_read_ratio_1 T) (takes_of rfl rfl rfl rfl) (hr.mono (by decide)) g_l158_17_read_ratio T.g_read_ratio T.k_read_ratio (sa_cons (se_name (i := 7) rfl v_l158_17__law_long) sa_nil))))) (se0_name (i := 5) rfl v_f_law__law_due)) (sss_one (ss_ret se_bl)) sss_nil)
    (sss_cons (ss_set (i := 5) sc_law.nd rfl l_f_law__law_due (se_if (st_cmp (oc_eq hr.units) bears_C (by rfl) (SE.up (se_callB cb_len bears_CA g_f_law_len T.n_len (by decide +kernel) (sa0_cons (se0_name (i := 7) rfl v_f_law__law_long) sa0_nil))) (SE.up se_int)) (se_tup (sa_cons se_str (sa_cons (se_tup (sa_cons se_int (sa_cons (se_bin ob_pow bears_C (SE.up se_int) (SE.up se_int)) sa_nil))) sa_nil))) (se_tup (sa_cons se_str (sa_cons se_str sa_nil)))) (by rfl) (.inl rfl))
    (sss_cons (ss_if (st_cmp (oc_ne hr.units) bears_C (by rfl) (SE.up (se_toldD (k := 5) (dn := "law") T.hit g_f_law__law_told T.g__law_told FdT FdTb sc__law_told rfl (.inl (by decide +kernel)) (fun cdv => told_gives (k := 5) sc__law_told.nd rfl (.inl (by decide +kernel)) rfl (by decide +kernel) (.inl (by decide +kernel)) (fun _ => rfl) ⟨by decide +kernel, T.g_BrimError, by decide⟩ ⟨by decide +kernel, T.g_UnknownCell, by decide⟩ ⟨by decide +kernel, T.g_UnknownName, by decide⟩ ⟨by decide +kernel, T.g_NothingLeft, by decide⟩ (by decide +kernel) T.g__law_field T.k__law_field ((okh__law_field T).mono (by decide)) (hr.mono (by decide))) TB hcd rfl (hr.mono (by decide)) lam_l161_17 rfl (fun _ _ _ _ _ => rfl) (fun A outer s H E f c hr => (se_callU (ok_read_ratio_1 T) (takes_of rfl rfl rfl rfl) (hr.mono (by decide)) g_l161_17_read_ratio T.g_read_ratio T.k_read_ratio (sa_cons (se_bin ob_add bears_C (SE.up se_str) (se0_name (i := 7) rfl v_l161_17__law_long)) sa_nil))))) (se0_name (i := 5) rfl v_f_law__law_due)) (sss_one (ss_ret se_bl)) sss_nil)
    (sss_cons (ss_set (i := 6) sc_law.nd rfl l_f_law__law_wrong (SEN.se (sen_lst (sa_cons se_str (sa_cons se_str (sa_cons se_str (sa_cons se_str (sa_cons se_str (sa_cons se_str (sa_cons se_str (sa_cons se_str (sa_cons se_str (sa_cons se_str (sa_cons se_str (sa_cons se_str (sa_cons se_str (sa_cons se_str (sa_cons se_str (sa_cons se_str (sa_cons se_str (sa_cons se_str (sa_cons se_str (sa_cons se_str sa_nil)))))))))))))))))))))) (by rfl) (.inl rfl))
    (sss_cons (ss_set (i := 6) sc_law.nd rfl l_f_law__law_wrong (se_bin ob_add bears_C (se0_name (i := 6) rfl v_f_law__law_wrong) (SE.up (SEN.se (sen_lst (sa_cons (se_bin ob_add bears_C (SE.up se_str) (se0_name (i := 3) rfl v_f_law__law_text_here)) (sa_cons (se_bin ob_add bears_C (se0_name (i := 3) rfl v_f_law__law_text_here) (SE.up se_str)) (sa_cons (se_bin ob_add bears_C (se0_name (i := 3) rfl v_f_law__law_text_here) (SE.up se_str)) (sa_cons (se_bin ob_add bears_C (SE.up se_str) (se0_name (i := 3) rfl v_f_law__law_text_here)) (sa_cons (se_bin ob_add bears_C (se0_name (i := 3) rfl v_f_law__law_text_here) (SE.up se_str)) (sa_cons (se_bin ob_add bears_C (SE.up (se_bin ob_add bears_C (SE.up se_str) (SE.up (se_slice (se0_name (i := 3) rfl v_f_law__law_text_here) so_none (so_some se_int))))) (SE.up se_str)) (sa_cons se_str (sa_cons se_str (sa_cons se_str (sa_cons se_str sa_nil)))))))))))))) (by rfl) (.inl rfl))
    (sss_cons (ss_for (passes_of rfl) rfl (si_any (se_name (i := 6) rfl v_f_law__law_wrong)) (sg_name (i := 8) sc_law.nd rfl l_f_law__law_row (.inl rfl)) (sss_one (ss_if (st_cmp (oc_ne hr.units) bears_C (by rfl) (SE.up (se_toldD (k := 5) (dn := "law") T.hit g_f_law__law_told T.g__law_told FdT FdTb sc__law_told rfl (.inl (by decide +kernel)) (fun cdv => told_gives (k := 5) sc__law_told.nd rfl (.inl (by decide +kernel)) rfl (by decide +kernel) (.inl (by decide +kernel)) (fun _ => rfl) ⟨by decide +kernel, T.g_BrimError, by decide⟩ ⟨by decide +kernel, T.g_UnknownCell, by decide⟩ ⟨by decide +kernel, T.g_UnknownName, by decide⟩ ⟨by decide +kernel, T.g_NothingLeft, by decide⟩ (by decide +kernel) T.g__law_field T.k__law_field ((okh__law_field T).mono (by decide)) (hr.mono (by decide))) TB hcd rfl (hr.mono (by decide)) lam_l166_21 rfl (fun _ _ _ _ _ => rfl) (fun A outer s H E f c hr => (se_callU (ok_read_ratio_1 T) (takes_of rfl rfl rfl rfl) (hr.mono (by decide)) g_l166_21_read_ratio T.g_read_ratio T.k_read_ratio (sa_cons (se_name (i := 8) rfl v_l166_21__law_row) sa_nil))))) (SE.up (se_tup (sa_cons se_str (sa_cons se_str sa_nil))))) (sss_one (ss_ret se_bl)) sss_nil)))
    (sss_one (ss_ret se_bl)))))))))))))))))
end Br
namespace Br
open Mi
/-! numbers as rationals -/
def qU (r : Rat) : U := .tup [.int r.num, .int (r.den : Int)]
/-- of at most n bits -/
structure Sz (n : Nat) (r : Rat) : Prop where
  a : r.num.natAbs < 2 ^ n
  b : r.den < 2 ^ n
theorem Sz.mono {m n : Nat} {r : Rat} (h : Sz m r) (k : m ≤ n) : Sz n r :=
  ⟨Nat.lt_of_lt_of_le h.a (Nat.pow_le_pow_right (by decide) k), Nat.lt_of_lt_of_le h.b (Nat.pow_le_pow_right (by decide) k)⟩
theorem sz_div {n : Nat} {t b : Int} (h : b ≠ 0) (ht : t.natAbs < 2 ^ n) (hb : b.natAbs < 2 ^ n) : Sz n (Rat.divInt t b) := by
  have g0 : 0 < Int.gcd b t := Nat.pos_of_ne_zero fun z => h (Int.gcd_eq_zero_iff.mp z).1
  refine ⟨?_, ?_⟩
  · rw [Rat.num_divInt]
    refine Nat.lt_of_le_of_lt ?_ ht
    rw [Int.natAbs_ediv_of_dvd (by exact Int.dvd_mul_of_dvd_right (Int.gcd_dvd_right b t))]
    rw [Int.natAbs_mul, Int.natAbs_sign_of_ne_zero h]
    simp only [Int.natAbs_natCast, Nat.one_mul]
    exact Nat.div_le_self _ _
  · rw [Rat.den_divInt, if_neg h]
    exact Nat.lt_of_le_of_lt (Nat.div_le_self _ _) hb
theorem Sz.neg {n : Nat} {r : Rat} (h : Sz n r) : Sz n (-r) := ⟨by rw [Rat.neg_num, Int.natAbs_neg]; exact h.a, by rw [Rat.neg_den]; exact h.b⟩
theorem den_i (r : Rat) : (0 : Int) < (r.den : Int) := by have := r.den_pos; omega
theorem den_ne (r : Rat) : (r.den : Int) ≠ 0 := by have := r.den_pos; omega
theorem add_div (x y : Rat) : x + y = Rat.divInt (x.num * y.den + y.num * x.den) (x.den * y.den) := by
  have e := Rat.divInt_add_divInt x.num y.num (den_ne x) (den_ne y)
  rw [Rat.num_divInt_den, Rat.num_divInt_den] at e
  exact e
theorem mul_div (x y : Rat) : x * y = Rat.divInt (x.num * y.num) (x.den * y.den) := by
  have e := Rat.divInt_mul_divInt x.num y.num (d₁ := x.den) (d₂ := y.den)
  rw [Rat.num_divInt_den, Rat.num_divInt_den] at e
  exact e
theorem div_div (x y : Rat) : x / y = Rat.divInt (x.num * y.den) (x.den * y.num) := by
  rw [Rat.div_def, Rat.inv_def]
  have e := Rat.divInt_mul_divInt x.num (y.den : Int) (d₁ := x.den) (d₂ := y.num)
  rw [Rat.num_divInt_den] at e
  exact e
theorem nz_num {y : Rat} (h : y ≠ 0) : y.num ≠ 0 := fun z => h (Rat.num_eq_zero.mp z)
theorem abs_lt_mul {m n : Nat} {a b : Int} (ha : a.natAbs < 2 ^ m) (hb : b.natAbs < 2 ^ n) : (a * b).natAbs < 2 ^ (m + n) := L2.wide_lt ha hb
theorem Sz.add {m n : Nat} {x y : Rat} (hx : Sz m x) (hy : Sz n y) : Sz (m + n + 1) (x + y) := by
  rw [add_div]
  have m1 := abs_lt_mul (b := (y.den : Int)) hx.a hy.b
  have m2 := abs_lt_mul (b := (x.den : Int)) hy.a hx.b
  have m3 := abs_lt_mul (a := (x.den : Int)) (b := (y.den : Int)) hx.b hy.b
  rw [Nat.add_comm n m] at m2
  refine sz_div (Int.mul_ne_zero (den_ne x) (den_ne y)) ?_ (Nat.lt_of_lt_of_le m3 (Nat.pow_le_pow_right (by decide) (Nat.le_succ _)))
  rw [Nat.pow_succ]
  have := Int.natAbs_add_le (x.num * y.den) (y.num * x.den)
  omega
theorem Sz.mul {m n : Nat} {x y : Rat} (hx : Sz m x) (hy : Sz n y) : Sz (m + n) (x * y) := by
  rw [mul_div]
  exact sz_div (Int.mul_ne_zero (den_ne x) (den_ne y)) (abs_lt_mul hx.a hy.a) (abs_lt_mul (a := (x.den : Int)) (b := (y.den : Int)) hx.b hy.b)
theorem Sz.div {m n : Nat} {x y : Rat} (hx : Sz m x) (hy : Sz n y) (h : y ≠ 0) : Sz (m + n) (x / y) := by
  rw [div_div]
  exact sz_div (Int.mul_ne_zero (den_ne x) (nz_num h)) (abs_lt_mul (b := (y.den : Int)) hx.a hy.b) (abs_lt_mul (a := (x.den : Int)) hx.b hy.a)
theorem sz_int {n : Nat} {i : Int} (h : i.natAbs < 2 ^ n) (hn : 0 < n) : Sz n (i : Rat) := ⟨h, Nat.one_lt_two_pow (by omega)⟩
/-- small enough for one more step -/
abbrev Ok4 (r : Rat) : Prop := Sz 4400 r
theorem mulK {a b : Int} (h : b.natAbs < 2 ^ 64) : mulOk a b = true := by
  unfold mulOk
  rw [decide_eq_true h]
  simp
theorem mulS {a b : Int} {m n : Nat} (ha : a.natAbs < 2 ^ m) (hb : b.natAbs < 2 ^ n) (hm : 0 < m) (hn : 0 < n) (h : m + n ≤ 1000000) : mulOk a b = true := by
  have x := PySem.Flt.log2_lt_of hm ha
  have y := PySem.Flt.log2_lt_of hn hb
  unfold mulOk
  rw [decide_eq_true (show a.natAbs.log2 + b.natAbs.log2 < 1000000 by omega)]
  rfl
theorem mul4 {a b : Int} (ha : a.natAbs < 2 ^ 4400) (hb : b.natAbs < 2 ^ 4400) : mulOk a b = true := mulS ha hb (by decide) (by decide) (by decide)
theorem lt4 {a b : Int} (ha : a.natAbs < 2 ^ 4400) (hb : b.natAbs < 2 ^ 4400) : (a * b).natAbs < 2 ^ 9000 :=
  Nat.lt_trans (abs_lt_mul ha hb) (Nat.pow_lt_pow_right (by decide) (by decide))
/-- lowest terms by floor division -/
def sg (t b : Int) : Int := if b < 0 then -(Int.gcd t b : Int) else Int.gcd t b
theorem sg_ne {t b : Int} (h : b ≠ 0) : sg t b ≠ 0 := by
  have g : Int.gcd t b ≠ 0 := fun z => h (Int.gcd_eq_zero_iff.mp z).2
  unfold sg
  split <;> omega
theorem sg_le {t b : Int} (h : b ≠ 0) : (sg t b).natAbs ≤ b.natAbs := by
  have g : Int.gcd t b ≤ b.natAbs := Nat.le_of_dvd (by omega) (Nat.gcd_dvd_right _ _)
  unfold sg
  split <;> omega
theorem divOk_of {j b : Int} (h : j ≠ 0) (hl : j.natAbs ≤ b.natAbs) (hb : b.natAbs < 2 ^ 9000) : divOk j = true := by
  have e : j.natAbs.log2 < 9000 := PySem.Flt.log2_lt_of (by decide) (Nat.lt_of_le_of_lt hl hb)
  unfold divOk
  rw [decide_eq_true h, decide_eq_true e]
  rfl
theorem sg_num {t b : Int} (h : b ≠ 0) : t.fdiv (sg t b) = (Rat.divInt t b).num := by
  rw [Rat.num_divInt]
  obtain ⟨t', ht⟩ := Int.gcd_dvd_left t b
  have g0 : (Int.gcd t b : Int) ≠ 0 := by
    have : Int.gcd t b ≠ 0 := fun z => h (Int.gcd_eq_zero_iff.mp z).2
    omega
  rw [Int.gcd_comm b t]
  unfold sg
  by_cases hn : b < 0
  · rw [if_pos hn, Int.sign_eq_neg_one_of_neg hn]
    have e1 : t.fdiv (-(Int.gcd t b : Int)) = -t' := by
      have z := Int.mul_fdiv_cancel_left (-t') (show (-(Int.gcd t b : Int)) ≠ 0 by omega)
      rw [Int.neg_mul_neg, ← ht] at z
      exact z
    rw [e1]
    have e2 : -1 * t = (Int.gcd t b : Int) * (-t') := by rw [Int.mul_neg, ← ht]; omega
    rw [e2, Int.mul_ediv_cancel_left _ g0]
  · rw [if_neg hn, Int.sign_eq_one_of_pos (by omega), Int.one_mul]
    have e1 : t.fdiv (Int.gcd t b : Int) = t' := by
      have z := Int.mul_fdiv_cancel_left t' g0
      rw [← ht] at z
      exact z
    rw [e1]
    have z := Int.mul_ediv_cancel_left t' g0
    rw [← ht] at z
    exact z.symm
theorem sg_den {t b : Int} (h : b ≠ 0) : b.fdiv (sg t b) = ((Rat.divInt t b).den : Int) := by
  rw [Rat.den_divInt, if_neg h]
  obtain ⟨b', hb⟩ := Int.gcd_dvd_right t b
  have gp : 0 < Int.gcd t b := Nat.pos_of_ne_zero fun z => h (Int.gcd_eq_zero_iff.mp z).2
  have g0 : (Int.gcd t b : Int) ≠ 0 := by omega
  rw [Int.gcd_comm b t]
  have en : b.natAbs = Int.gcd t b * b'.natAbs := by
    have z := congrArg Int.natAbs hb
    rw [Int.natAbs_mul, Int.natAbs_natCast] at z
    exact z
  rw [en, Nat.mul_div_cancel_left _ gp]
  unfold sg
  by_cases hn : b < 0
  · rw [if_pos hn]
    have e1 : b.fdiv (-(Int.gcd t b : Int)) = -b' := by
      have z := Int.mul_fdiv_cancel_left (-b') (show (-(Int.gcd t b : Int)) ≠ 0 by omega)
      rw [Int.neg_mul_neg, ← hb] at z
      exact z
    have hb' : b' < 0 := by
      refine Int.not_le.mp fun z => ?_
      have := Int.mul_nonneg (show (0 : Int) ≤ (Int.gcd t b : Int) by omega) z
      omega
    rw [e1]
    omega
  · rw [if_neg hn]
    have e1 : b.fdiv (Int.gcd t b : Int) = b' := by
      have z := Int.mul_fdiv_cancel_left b' g0
      rw [← hb] at z
      exact z
    have hb' : 0 ≤ b' := by
      refine Int.not_lt.mp fun z => ?_
      have := Int.mul_neg_of_pos_of_neg (show (0 : Int) < (Int.gcd t b : Int) by omega) z
      omega
    rw [e1]
    omega
theorem qU_div {t b : Int} (h : b ≠ 0) : qU (Rat.divInt t b) = .tup [.int (t.fdiv (sg t b)), .int (b.fdiv (sg t b))] := by
  unfold qU
  rw [sg_num h, sg_den h]
theorem q_inj {x y : Rat} : x = y ↔ x.num = y.num ∧ (x.den : Int) = (y.den : Int) :=
  ⟨fun h => by rw [h]; exact ⟨rfl, rfl⟩, fun ⟨a, b⟩ => Rat.ext a (by omega)⟩
end Br

namespace Br
open Mi
theorem gcd_fmod (x y : Int) (hx : 0 ≤ x) (hy : 0 ≤ y) : Int.gcd y (x.fmod y) = Int.gcd x y := by
  rw [Int.fmod_eq_emod_of_nonneg x hy]
  obtain ⟨m, rfl⟩ := Int.eq_ofNat_of_zero_le hx
  obtain ⟨n, rfl⟩ := Int.eq_ofNat_of_zero_le hy
  have e : ((m : Int) % (n : Int)) = ((m % n : Nat) : Int) := (Int.natCast_emod m n).symm
  rw [e]
  show Nat.gcd (n : Int).natAbs ((m % n : Nat) : Int).natAbs = Nat.gcd (m : Int).natAbs (n : Int).natAbs
  simp only [Int.natAbs_natCast]
  rw [Nat.gcd_comm m n, Nat.gcd_rec n m, Nat.gcd_comm]
theorem sl2 : (2 : Nat) ≤ PySem.sizeLine := by decide
@[simp] theorem slK (n : Nat) (h : n ≤ 1000 := by first | decide | omega) : n ≤ PySem.sizeLine := Nat.le_trans h (by decide)
theorem e_common (a b : Int) (st : List U) : m_common [.int a, .int b] st = .ok (.int (Int.gcd a b)) st := by
  have loop : ∀ (n : Nat) (x y : Int), y.toNat ≤ n → 0 ≤ x → 0 ≤ y → x_common_1 ⟨[.val (.int x), .val (.int y)], st⟩ = .ok .nx ⟨[.val (.int (Int.gcd x y)), .val (.int 0)], st⟩ := by
    intro n
    unfold x_common_1
    induction n with
    | zero =>
      intro x y hy hx h0
      have e : y = 0 := by omega
      subst e
      rw [whileM_stop (s1 := ⟨[.val (.int x), .val (.int 0)], st⟩) (by simp [x_common_1t])]
      simp [Int.gcd, Int.natAbs_of_nonneg hx]
    | succ n ih =>
      intro x y hy hx h0
      by_cases e : y = 0
      · subst e
        rw [whileM_stop (s1 := ⟨[.val (.int x), .val (.int 0)], st⟩) (by simp [x_common_1t])]
        simp [Int.gcd, Int.natAbs_of_nonneg hx]
      · have yp : 0 < y := by omega
        have m0 : 0 ≤ x.fmod y := Int.fmod_nonneg_of_pos x yp
        have m1 : x.fmod y < y := Int.fmod_lt_of_pos x yp
        refine whileM_step (s1 := ⟨[.val (.int x), .val (.int y)], st⟩) (s2 := ⟨[.val (.int y), .val (.int (x.fmod y))], st⟩) (by simp [x_common_1t, yp]) (by simp [x_common_1b, e]) ?_ (fun z => by cases z)
        rw [ih y (x.fmod y) (by omega) h0 m0, gcd_fmod x y hx h0]
  have eg : Int.gcd (a.natAbs : Int) (b.natAbs : Int) = Int.gcd a b := by simp [Int.gcd]
  simp [m_common, b_common, loop b.natAbs _ _ (by simp) (Int.natCast_nonneg a.natAbs) (Int.natCast_nonneg b.natAbs), eg]
theorem e_ratio (t b : Int) (st : List U) (h : b ≠ 0) (hb : b.natAbs < 2 ^ 9000) : m_ratio [.int t, .int b] st = .ok (qU (Rat.divInt t b)) st := by
  have hd : divOk (sg t b) = true := divOk_of (sg_ne h) (sg_le h) hb
  rw [qU_div h]
  by_cases hn : b < 0
  · have es : -(Int.gcd t b : Int) = sg t b := (if_pos hn).symm
    simp [m_ratio, b_ratio, eqU_int, h, hn, e_common, es, hd]
  · have es : (Int.gcd t b : Int) = sg t b := (if_neg hn).symm
    simp [m_ratio, b_ratio, eqU_int, h, hn, e_common, es, hd]
end Br

namespace Br
open Mi
/-- a number as it may be passed -/
inductive Nm where
  | i (z : Int) | p (t b : Int)
def nmU : Nm → U
  | .i z => .int z
  | .p t b => .tup [.int t, .int b]
def nmQ : Nm → Rat
  | .i z => z
  | .p t b => Rat.divInt t b
def Nm.Good : Nm → Prop
  | .i _ => True
  | .p _ b => 0 < b ∧ b.natAbs < 2 ^ 9000
theorem e_checked_i (i : Int) (st : List U) : m_checked [.int i] st = .ok (qU (i : Rat)) st := by
  simp [m_checked, b_checked, ktL, isi_int_int, qU]
theorem e_checked_p (n d : Int) (st : List U) (h : 0 < d) (hb : d.natAbs < 2 ^ 9000) : m_checked [.tup [.int n, .int d]] st = .ok (qU (Rat.divInt n d)) st := by
  have h0 : d ≠ 0 := by omega
  have h1 : ¬ d < 1 := by omega
  simp [m_checked, b_checked, ktL, isi_tup_int, h1, e_ratio n d st h0 hb]
theorem e_num {x : Nm} (h : x.Good) (st : List U) : m_checked [nmU x] st = .ok (qU (nmQ x)) st := by
  cases x with
  | i z => exact e_checked_i z st
  | p t b => exact e_checked_p t b st h.1 h.2
theorem qU_def (x : Rat) : qU x = .tup [.int x.num, .int (x.den : Int)] := rfl
def qN (x : Rat) : Nm := .p x.num x.den
theorem qN_U (x : Rat) : nmU (qN x) = qU x := rfl
theorem qN_Q (x : Rat) : nmQ (qN x) = x := Rat.num_divInt_den x
theorem qN_good {x : Rat} (h : Ok4 x) : (qN x).Good := ⟨den_i x, Nat.lt_of_lt_of_le h.b (Nat.pow_le_pow_right (by decide) (by decide))⟩
theorem e_checked_q {x : Rat} (h : Ok4 x) (st : List U) : m_checked [qU x] st = .ok (qU x) st := by
  have := e_num (qN_good h) st
  rw [qN_Q] at this
  exact this
theorem qU_int (i : Int) : qU (i : Rat) = .tup [.int i, .int 1] := rfl
theorem int_of_den {x : Rat} (h : (x.den : Int) = 1) : ((x.num : Int) : Rat) = x := Rat.ext rfl (by rw [Rat.den_intCast]; omega)
/-- -1, 0, 1 -/
def cm (x y : Rat) : Int := (if y < x then 1 else 0) - (if x < y then 1 else 0)
theorem lt_q (x y : Rat) : (x.num * (y.den : Int) < y.num * (x.den : Int)) = (x < y) := propext (Rat.lt_iff x y).symm
section
variable {x y : Nm} (hx : x.Good) (hy : y.Good) (kx : Ok4 (nmQ x)) (ky : Ok4 (nmQ y)) (st : List U)
include hx hy kx ky
end
end Br

namespace Br
open Mi
theorem l_q (t b : Int) (st : List U) (h : b ≠ 0) (hb : b.natAbs < 2 ^ 9000) : m__law_q [.int t, .int b] st = .ok (qU (Rat.divInt t b)) st := by
  have hd : divOk (sg t b) = true := divOk_of (sg_ne h) (sg_le h) hb
  have loop : ∀ (n : Nat) (x y : Int), y.toNat ≤ n → 0 ≤ x → 0 ≤ y → x__law_q_1 ⟨[.val (.int t), .val (.int b), .val (.int x), .val (.int y)], st⟩ = .ok .nx ⟨[.val (.int t), .val (.int b), .val (.int (Int.gcd x y)), .val (.int 0)], st⟩ := by
    intro n
    unfold x__law_q_1
    induction n with
    | zero =>
      intro x y hy hx h0
      have e : y = 0 := by omega
      subst e
      rw [whileM_stop (s1 := ⟨[.val (.int t), .val (.int b), .val (.int x), .val (.int 0)], st⟩) (by simp [x__law_q_1t])]
      simp [Int.gcd, Int.natAbs_of_nonneg hx]
    | succ n ih =>
      intro x y hy hx h0
      by_cases e : y = 0
      · subst e
        rw [whileM_stop (s1 := ⟨[.val (.int t), .val (.int b), .val (.int x), .val (.int 0)], st⟩) (by simp [x__law_q_1t])]
        simp [Int.gcd, Int.natAbs_of_nonneg hx]
      · have yp : 0 < y := by omega
        have m0 : 0 ≤ x.fmod y := Int.fmod_nonneg_of_pos x yp
        have m1 : x.fmod y < y := Int.fmod_lt_of_pos x yp
        refine whileM_step (s1 := ⟨[.val (.int t), .val (.int b), .val (.int x), .val (.int y)], st⟩) (s2 := ⟨[.val (.int t), .val (.int b), .val (.int y), .val (.int (x.fmod y))], st⟩) (by simp [x__law_q_1t, yp]) (by simp [x__law_q_1b, e]) ?_ (fun z => by cases z)
        rw [ih y (x.fmod y) (by omega) h0 m0, gcd_fmod x y hx h0]
  have eg : Int.gcd (t.natAbs : Int) (b.natAbs : Int) = Int.gcd t b := by simp [Int.gcd]
  have lp := loop b.natAbs (t.natAbs : Int) (b.natAbs : Int) (by simp) (Int.natCast_nonneg _) (Int.natCast_nonneg _)
  rw [qU_div h]
  by_cases hn : b < 0
  · have es' : -(Int.gcd t b : Int) = sg t b := (if_pos hn).symm
    simp [m__law_q, b__law_q, lp, eg, h, hn, es', hd]
  · have es : (Int.gcd t b : Int) = sg t b := (if_neg hn).symm
    simp [m__law_q, b__law_q, lp, eg, h, hn, es, hd]
section
variable {x y : Rat} (hx : Ok4 x) (hy : Ok4 y) (st : List U)
include hx hy
end
theorem l_neg (x : Rat) (st : List U) : m__law_neg [qU x] st = .ok (qU (-x)) st := by
  simp [m__law_neg, b__law_neg, qU]
theorem abs_parts (x : Rat) : x.abs.num = (x.num.natAbs : Int) ∧ x.abs.den = x.den := by
  by_cases h : 0 ≤ x
  · have := Rat.num_nonneg.mpr h
    rw [Rat.abs_of_nonneg h]
    exact ⟨by omega, rfl⟩
  · have h' : x ≤ 0 := by grind
    have : ¬ 0 ≤ x.num := fun z => h (Rat.num_nonneg.mp z)
    rw [Rat.abs_of_nonpos h', Rat.neg_num, Rat.neg_den]
    exact ⟨by omega, rfl⟩
theorem Sz.abs {n : Nat} {x : Rat} (h : Sz n x) : Sz n x.abs := ⟨by rw [(abs_parts x).1]; simpa using h.a, by rw [(abs_parts x).2]; exact h.b⟩
/-! sums -/
def sumQ (xs : List Rat) : Rat := xs.foldl (· + ·) 0
/-- sizes while summing -/
def Sums : List Rat → Rat → Prop
  | [], _ => True
  | x :: xs, a => Ok4 a ∧ Ok4 x ∧ Sums xs (a + x)
theorem sums_of {n : Nat} : ∀ (xs : List Rat) (m : Nat) (a : Rat), (∀ x ∈ xs, Sz n x) → Sz m a → m + xs.length * (n + 1) ≤ 4400 → n ≤ 4400 → Sums xs a
  | [], _, _, _, _, _, _ => trivial
  | x :: xs, m, a, h, ha, hl, hn => ⟨ha.mono (by simp only [List.length_cons, Nat.add_mul] at hl; omega), (h x (by simp)).mono hn,
    sums_of xs (m + n + 1) (a + x) (fun y hy => h y (by simp [hy])) (ha.add (h x (by simp))) (by simp only [List.length_cons, Nat.add_mul] at hl; omega) hn⟩
theorem fold_sz {n : Nat} : ∀ (xs : List Rat) (m : Nat) (a : Rat), (∀ x ∈ xs, Sz n x) → Sz m a → Sz (m + xs.length * (n + 1)) (xs.foldl (· + ·) a)
  | [], m, a, _, ha => ha.mono (by omega)
  | x :: xs, m, a, h, ha => (fold_sz xs (m + n + 1) (a + x) (fun y hy => h y (by simp [hy])) (ha.add (h x (by simp)))).mono (by simp only [List.length_cons, Nat.add_mul]; omega)
theorem sumQ_sz {n : Nat} {xs : List Rat} (h : ∀ x ∈ xs, Sz n x) : Sz (1 + xs.length * (n + 1)) (sumQ xs) := fold_sz xs 1 0 h ⟨by decide, by decide⟩
theorem qU0 : qU 0 = .tup [.int 0, .int 1] := rfl
theorem qU1 : qU 1 = .tup [.int 1, .int 1] := rfl
end Br

namespace Mi
open PySem PySem.Spec PyProof.Rows L2
theorem compL_drawT {α β : Type} (r : α → U) (f : β → U) (R : α → β → Prop) (B : U → Prop) {vs : List Nat} {g : U → M Unit} {e : M U} {E : List Sl} {st : List U} : ∀ {xs : List α} {acc : List U} {b : U}, B b →
    (∀ x ∈ xs, ∀ b, B b → ∃ y b' E2, elR g e E (.tbl "law" :: b :: st) (r x) = .ok (f y) ⟨E2, .tbl "law" :: b' :: st⟩ ∧ wipeE E2 vs = E ∧ R x y ∧ B b') → acc.length + xs.length ≤ sizeLine →
    ∃ (ps : List (α × β)) (b' : U), compL vs g (ret true) e acc (xs.map r) ⟨E, .tbl "law" :: b :: st⟩ = .ok (acc ++ ps.map fun p => f p.2) ⟨E, .tbl "law" :: b' :: st⟩ ∧ ps.map (·.1) = xs ∧ (∀ p ∈ ps, R p.1 p.2) ∧ B b' := by
  intro xs
  induction xs with
  | nil => intro acc b hb _ _; exact ⟨[], b, by show Res.ok acc _ = _; simp, rfl, fun p hp => (by cases hp), hb⟩
  | cons x xs ih =>
    intro acc b hb h hl
    obtain ⟨y, b1, E2, e1, e2, hR, hb1⟩ := h x (by simp) b hb
    obtain ⟨ps, b2, e3, em, hp, hb2⟩ := ih (acc := acc ++ [f y]) hb1 (fun z hz => h z (by simp [hz])) (by simp only [List.length_cons, List.length_append, List.length_nil] at hl ⊢; omega)
    refine ⟨(x, y) :: ps, b2, ?_, by rw [List.map_cons, em], ?_, hb2⟩
    · rw [List.map_cons, compL_step e1 (by simp only [List.length_cons] at hl; omega), e2, e3]
      simp
    · intro p hp'
      rcases List.mem_cons.mp hp' with rfl | hp'
      · exact hR
      · exact hp p hp'
theorem lc_drawT {α β : Type} (r : α → U) (f : β → U) (R : α → β → Prop) (B : U → Prop) {xs : List α} {vs : List Nat} {mi : M (List U)} {g : U → M Unit} {e : M U} {s : MS} {E0 : List Sl} {b : U} {st : List U} (hb : B b) (h1 : mi s = .ok (xs.map r) ⟨E0, .tbl "law" :: b :: st⟩) (hn : noOwn E0 vs = true)
    (he : ∀ x ∈ xs, ∀ b, B b → ∃ y b' E2, elR g e (wipeE E0 vs) (.tbl "law" :: b :: st) (r x) = .ok (f y) ⟨E2, .tbl "law" :: b' :: st⟩ ∧ wipeE E2 vs = wipeE E0 vs ∧ R x y ∧ B b') (hl : xs.length ≤ sizeLine) :
    ∃ (ps : List (α × β)) (b' : U), lcM vs mi g (ret true) e s = .ok (.lst (ps.map fun p => f p.2)) ⟨E0, .tbl "law" :: b' :: st⟩ ∧ ps.map (·.1) = xs ∧ (∀ p ∈ ps, R p.1 p.2) ∧ B b' := by
  obtain ⟨ps, b', e1, e2, e3, e4⟩ := compL_drawT r f R B (acc := []) hb he (by simpa using hl)
  refine ⟨ps, b', ?_, e2, e3, e4⟩
  unfold lcM
  rw [bd_ok h1]
  show when (noOwn E0 vs) _ _ = _
  rw [hn]
  show finL vs E0 _ = _
  rw [e1]
  show Res.ok (U.lst ([] ++ ps.map fun p => f p.2)) (⟨backE E0 (wipeE E0 vs) vs, .tbl "law" :: b' :: st⟩ : MS) = _
  rw [back_wipe]; rfl

end Mi

namespace Br
open Mi
/-! draws -/
def boxU (cells : List Int) (i h s : Int) : U := .lst [.lst (cells.map .int), .int i, .int h, .int s]
def BoxOk (b : U) : Prop := ∃ cells i h s, b = boxU cells i h s ∧ 0 ≤ i
theorem set_l (u : U) (us : List U) (k : Nat) (h : k < us.length) : setI u (.int (k : Int)) (.lst us) = some (.lst (us.set k u)) := setI_lst u us k h
theorem box_1 (c x y z u : U) : setI u (.int 1) (.lst [c, x, y, z]) = some (.lst [c, u, y, z]) := set_l u [c, x, y, z] 1 (by simp)
theorem box_2 (c x y z u : U) : setI u (.int 2) (.lst [c, x, y, z]) = some (.lst [c, x, u, z]) := set_l u [c, x, y, z] 2 (by simp)
theorem d_draw {b : U} (hb : BoxOk b) (n : Int) (hn : 0 < n) (st : List U) (hn2 : n.natAbs < 2 ^ 9000 := by first | decide | omega) : ∃ v b', m__law_draw [.ref 1, .int n] (.tbl "law" :: b :: st) = .ok (.int v) (.tbl "law" :: b' :: st) ∧ 0 ≤ v ∧ v < n ∧ BoxOk b' := by
  obtain ⟨cells, i, h, s, rfl, hi⟩ := hb
  obtain ⟨k, rfl⟩ := Int.eq_ofNat_of_zero_le hi
  have n0 : n ≠ 0 := by omega
  have hd : divOk n = true := divOk_of n0 (Nat.le_refl _) hn2
  have d23 : divOk 23 = true := by decide
  have m1 : ∀ c : Int, mulOk c 48611 = true := fun c => mulK (by decide)
  have m2 : ∀ c : Int, mulOk c 26249 = true := fun c => mulK (by decide)
  have m3 : ∀ c : Int, mulOk c 15991 = true := fun c => mulK (by decide)
  have m4 : ∀ c : Int, mulOk c 39119 = true := fun c => mulK (by decide)
  have m6 : ∀ c : Int, mulOk c 9029 = true := fun c => mulK (by decide)
  have m5 : ∀ x : Int, mulOk (x.fmod 2147483629) (x.fmod 2147483629) = true := fun x => mulK (by
    have h1 := Int.fmod_nonneg_of_pos x (show (0 : Int) < 2147483629 by decide)
    have h2 := Int.fmod_lt_of_pos x (show (0 : Int) < 2147483629 by decide)
    omega)
  have p18 : (10 : Int) ^ (18 : Int).toNat = 1000000000000000000 := by decide
  have rt : ∀ c i s : Int, ∃ v : Int, ((((((c * 48611 + i * 26249 + s).fmod 2147483629 * (c * 48611 + i * 26249 + s).fmod 2147483629 + i * 15991).fmod 1000000007) * 39119 + (c * 48611 + i * 26249 + s).fmod 2147483629).fmod 2147483563).fdiv 23).fmod n = v ∧ 0 ≤ v ∧ v < n := fun c i s => ⟨_, rfl, Int.fmod_nonneg_of_pos _ hn, Int.fmod_lt_of_pos _ hn⟩
  by_cases hh : h < 2
  · by_cases hl : (k : Int) + 1 ≤ (cells.length : Int)
    · have hk : k < cells.length := by omega
      have hl' : ¬ (cells.length : Int) < (k : Int) + 1 := by omega
      by_cases hc : cells[k] < 1000000000000000000
      · obtain ⟨v, e, h1, h2⟩ := rt cells[k] ((k : Int) + 1) s
        refine ⟨v, boxU cells ((k : Int) + 1) h s, ?_, h1, h2, _, _, _, _, rfl, by omega⟩
        simp [m__law_draw, b__law_draw, boxU, hh, hl, hl', hk, hc, box_1, box_2, m1, m2, m3, m4, m5, m6, d23, hd, n0, e]
      · refine ⟨cells[k].fmod n, boxU cells ((k : Int) + 1) (cells[k].fdiv n) s, ?_, Int.fmod_nonneg_of_pos _ hn, Int.fmod_lt_of_pos _ hn, _, _, _, _, rfl, by omega⟩
        simp [m__law_draw, b__law_draw, boxU, hh, hl, hl', hk, hc, box_1, box_2, m1, m2, m3, m4, m5, m6, d23, hd, n0]
    · have hl' : (cells.length : Int) < (k : Int) + 1 := by omega
      obtain ⟨v, e, h1, h2⟩ := rt (s + ((k : Int) + 1) * 9029) ((k : Int) + 1) s
      refine ⟨v, boxU cells ((k : Int) + 1) h s, ?_, h1, h2, _, _, _, _, rfl, by omega⟩
      simp [m__law_draw, b__law_draw, boxU, hh, hl, hl', box_1, box_2, m1, m2, m3, m4, m5, m6, d23, hd, n0, e]
  · refine ⟨h.fmod n, boxU cells k (h.fdiv n) s, ?_, Int.fmod_nonneg_of_pos _ hn, Int.fmod_lt_of_pos _ hn, _, _, _, _, rfl, hi⟩
    simp [m__law_draw, b__law_draw, boxU, hh, box_1, box_2, hd, n0]
end Br

namespace Br
open Mi
theorem nat_lt {a : Nat} {k : Nat} (b : Nat) (h : a ≤ b) (hb : b < 2 ^ k := by decide) : a < 2 ^ k := Nat.lt_of_le_of_lt h hb
/-- small: up to 8, below by up to 5 -/
theorem d_small {b : U} (hb : BoxOk b) (st : List U) : ∃ x b', m__law_small [.ref 1] (.tbl "law" :: b :: st) = .ok (qU x) (.tbl "law" :: b' :: st) ∧ Sz 4 x ∧ BoxOk b' := by
  obtain ⟨v0, b0, e0, _, _, hb0⟩ := d_draw hb 2 (by decide) st
  by_cases h0 : v0 = 0
  · obtain ⟨v1, b1, e1, l1, u1, hb1⟩ := d_draw hb0 7 (by decide) st
    refine ⟨((v1 - 3 : Int) : Rat), b1, ?_, sz_int (nat_lt 3 (by omega)) (by decide), hb1⟩
    simp [m__law_small, b__law_small, e0, h0, e1, eqU_int, qU_int, -Rat.intCast_sub]
  · obtain ⟨v1, b1, e1, l1, u1, hb1⟩ := d_draw hb0 15 (by decide) st
    obtain ⟨v2, b2, e2, l2, u2, hb2⟩ := d_draw hb1 5 (by decide) st
    have hn : 1 + v2 ≠ 0 := by omega
    refine ⟨Rat.divInt (v1 - 7) (1 + v2), b2, ?_, sz_div hn (nat_lt 7 (by omega)) (nat_lt 5 (by omega)), hb2⟩
    simp [m__law_small, b__law_small, e0, h0, e1, e2, eqU_int, l_q (v1 - 7) (1 + v2) (.tbl "law" :: b2 :: st) hn (by omega)]
theorem d_number {b : U} (hb : BoxOk b) (st : List U) : ∃ x b', m__law_number [.ref 1] (.tbl "law" :: b :: st) = .ok (qU x) (.tbl "law" :: b' :: st) ∧ Sz 31 x ∧ BoxOk b' := by
  obtain ⟨v0, b0, e0, l0, u0, hb0⟩ := d_draw hb 9 (by decide) st
  by_cases h0 : 0 < v0
  · obtain ⟨x, b1, e1, hx, hb1⟩ := d_small hb0 st
    refine ⟨x, b1, ?_, hx.mono (by decide), hb1⟩
    simp [m__law_number, b__law_number, e0, h0, e1]
  · obtain ⟨v1, b1, e1, l1, u1, hb1⟩ := d_draw hb0 2000000000 (by decide) st (by omega)
    obtain ⟨v2, b2, e2, l2, u2, hb2⟩ := d_draw hb1 1000000000 (by decide) st (by omega)
    have hn : 1 + v2 ≠ 0 := by omega
    have mk : mulOk 2 1000000000 = true := mulK (by decide)
    refine ⟨Rat.divInt (v1 - 1000000000) (1 + v2), b2, ?_, sz_div hn (nat_lt 1000000000 (by omega)) (nat_lt 1000000000 (by omega)), hb2⟩
    simp [m__law_number, b__law_number, e0, h0, e1, e2, mk, l_q (v1 - 1000000000) (1 + v2) (.tbl "law" :: b2 :: st) hn (by omega)]
theorem div_mul (x : Rat) (m : Int) (h : m ≠ 0) : Rat.divInt (x.num * m) (x.den * m) = x := by
  rw [Rat.divInt_mul_right h, Rat.num_divInt_den]
theorem d_spelled {b : U} (hb : BoxOk b) {x : Rat} (hx : Ok4 x) (st : List U) : ∃ (u : Nm) (b' : U), m__law_spelled [.ref 1, qU x] (.tbl "law" :: b :: st) = .ok (nmU u) (.tbl "law" :: b' :: st) ∧ nmQ u = x ∧ u.Good ∧ BoxOk b' := by
  have big : ∀ b : U, BoxOk b → ∃ (u : Nm) (v1 : Int) (b' : U), m__law_draw [.ref 1, .int 3] (.tbl "law" :: b :: st) = .ok (.int v1) (.tbl "law" :: b' :: st) ∧ nmU u = .tup [.int (x.num * (1 + v1)), .int (x.den * (1 + v1))] ∧ mulOk x.num (1 + v1) = true ∧ mulOk (x.den : Int) (1 + v1) = true ∧ nmQ u = x ∧ u.Good ∧ BoxOk b' := by
    intro b hb
    obtain ⟨v1, b1, e1, l1, u1, hb1⟩ := d_draw hb 3 (by decide) st
    refine ⟨.p (x.num * (1 + v1)) (x.den * (1 + v1)), v1, b1, e1, rfl, mulK (nat_lt 3 (by omega)), mulK (nat_lt 3 (by omega)), div_mul x _ (by omega), ⟨Int.mul_pos (den_i x) (by omega), ?_⟩, hb1⟩
    exact Nat.lt_trans (abs_lt_mul (a := (x.den : Int)) (n := 3) hx.b (nat_lt 3 (by omega))) (Nat.pow_lt_pow_right (by decide) (by decide))
  by_cases h1 : (x.den : Int) = 1
  · obtain ⟨v0, b0, e0, l0, u0, hb0⟩ := d_draw hb 2 (by decide) st
    by_cases h0 : v0 = 0
    · refine ⟨.i x.num, b0, ?_, int_of_den h1, trivial, hb0⟩
      simp [m__law_spelled, b__law_spelled, eqU_int, qU_def, h1, e0, h0, nmU]
    · obtain ⟨u, v1, b1, e1, eu, m1, m2, hq, hg, hb1⟩ := big b0 hb0
      refine ⟨u, b1, ?_, hq, hg, hb1⟩
      rw [eu]
      simp [m__law_spelled, b__law_spelled, eqU_int, qU_def, h1, e0, h0, e1, m1, m2]
      rw [h1] at m2
      simp [m2]
  · obtain ⟨u, v1, b1, e1, eu, m1, m2, hq, hg, hb1⟩ := big b hb
    refine ⟨u, b1, ?_, hq, hg, hb1⟩
    rw [eu]
    simp [m__law_spelled, b__law_spelled, eqU_int, qU_def, h1, e1, m1, m2]
theorem d_begin (ns : List Int) (hn : ns.length ≤ 63) : ∃ b, m__law_begin [.kl (ns.map .int)] [.tbl "law"] = .ok (.ref 1) [.tbl "law", b] ∧ BoxOk b := by
  obtain ⟨cs, ecs, hcl⟩ : ∃ cs : List Int, cutU (ns.map U.int) none (some 63) = cs.map U.int ∧ cs.length ≤ 63 := by
    refine ⟨((ns.drop (HT.sIx (ns.map U.int).length 0 none)).take (HT.sIx (ns.map U.int).length (ns.map U.int).length (some 63) - HT.sIx (ns.map U.int).length 0 none)), by unfold cutU; rw [List.map_take, List.map_drop], ?_⟩
    rw [List.length_take, List.length_drop]
    omega
  have m1 : ∀ c : Int, mulOk c 7411 = true := fun c => mulK (by decide)
  have m2 : mulOk 97 (cs.length : Int) = true := mulK (nat_lt 63 (by omega))
  have loop : ∀ (xs : List Int) (t : Int) (o a c : Sl), ∃ t' : Int, forL (stv 1) x__law_begin_1b (xs.map U.int) ⟨[a, o, c, .val (.int t)], [.tbl "law"]⟩ = .ok .nx ⟨[a, lastS o (xs.map U.int), c, .val (.int t')], [.tbl "law"]⟩ := by
    intro xs
    induction xs with
    | nil => exact fun t o a c => ⟨t, rfl⟩
    | cons x xs ih =>
      intro t o a c
      obtain ⟨t', e⟩ := ih ((t * 7411 + x).fmod 2147483497) (.val (.int x)) a c
      exact ⟨t', by simp [X__law_begin_1b, m1, e]⟩
  obtain ⟨t', e⟩ := loop cs (10030 + 97 * (cs.length : Int)) .no (.val (.kl (ns.map .int))) (.val (.lst (cs.map .int)))
  have c1 : x__law_begin_2 ⟨[.val (.kl (ns.map .int)), .no, .no, .no], [.tbl "law"]⟩ = .ok (.lst (cs.map .int)) ⟨[.val (.kl (ns.map .int)), .no, .no, .no], [.tbl "law"]⟩ := by
    rw [X__law_begin_2]
    exact lc_map U.int U.int (by simp [ecs]) (by simp) (fun x hx => by simp [X__law_begin_2b]) (Nat.le_trans hcl (by decide))
  refine ⟨boxU cs 0 0 t', ?_, cs, 0, 0, t', rfl, by decide⟩
  simp [m__law_begin, b__law_begin, c1, m2, X__law_begin_1, e, boxU]
/-! a thing is like itself -/
def strOk (s : PySem.Str) : Prop := PySem.PyData.strOk s = true
def Da : Nat → U → Prop
  | 0, _ => False
  | n + 1, u => (∃ i : Int, u = .int i) ∨ (∃ s : PySem.Str, u = .str s ∧ strOk s) ∨ (∃ b : Bool, u = .bl b) ∨ u = .non ∨ ∃ us : List U, (u = .lst us ∨ u = .tup us) ∧ us.length ≤ 1000 ∧ ∀ x ∈ us, Da n x
theorem bools_true {α : Type} (l : List α) : boolsU (l.map fun _ => U.bl true) = some (l.map fun _ => true) := by
  induction l with
  | nil => rfl
  | cons x l ih => rw [List.map_cons, boolsU, ih]; rfl
theorem all_true {α : Type} (l : List α) : (l.map fun _ => true).all id = true := by
  induction l with
  | nil => rfl
  | cons x l ih => rw [List.map_cons, List.all_cons, ih]; rfl
theorem all_tt {α : Type} (l : List α) (s : MS) : allU [.lst (l.map fun _ => .bl true)] s = .ok (.bl true) s := by
  unfold allU
  simp only [bools_true, all_true]
theorem eqU_str {neg : Bool} {a b : PySem.Str} (ha : strOk a) (hb : strOk b) : eqU neg (.str a) (.str b) = ret (.bl (xor neg (a == b))) := by
  have h : ∀ s : PySem.Str, strOk s → PySem.SeqAt.shaped (.str s) = true := fun s hs => by
    unfold strOk at hs
    simp [PySem.SeqAt.shaped, PySem.PyData.canLay0, PySem.PyData.depth, hs]
  show when _ _ = _
  rw [h a ha, h b hb]
  funext s
  rfl
theorem eqU_non (neg : Bool) : eqU neg .non .non = ret (.bl (xor neg true)) := by
  have h : PySem.SeqAt.shaped .none = true := by decide
  show when _ _ = _
  rw [h]
  funext s
  rfl
theorem rng1_s (n : Nat) (h : n ≤ 1000000) (s : MS) : rng1 [.int (n : Int)] s = .ok ((List.range n).map fun (i : Nat) => .int (i : Int)) s := by
  rw [rng1_nat n h]
  simp
theorem rngM_s {mi : M (List U)} {s s1 : MS} {n : Nat} (h : mi s = .ok [.int (n : Int)] s1) (hn : n ≤ 1000000) : bd mi rng1 s = .ok ((List.range n).map fun (i : Nat) => .int (i : Int)) s1 := by
  rw [bd_ok h]; exact rng1_s n hn s1
@[simp] theorem isi_str_int (i : PySem.Str) : isiU ktB [.str i, .ty "int"] = ret (.bl false) := isi1 (n := "str") rfl (by decide +kernel)
@[simp] theorem isi_str_list (i : PySem.Str) : isiU ktB [.str i, .ty "list"] = ret (.bl false) := isi1 (n := "str") rfl (by decide +kernel)
@[simp] theorem isi_str_tuple (i : PySem.Str) : isiU ktB [.str i, .ty "tuple"] = ret (.bl false) := isi1 (n := "str") rfl (by decide +kernel)
@[simp] theorem isi_str_bool (i : PySem.Str) : isiU ktB [.str i, .ty "bool"] = ret (.bl false) := isi1 (n := "str") rfl (by decide +kernel)
@[simp] theorem isi_str_lt (i : PySem.Str) : isiU ktB [.str i, .tup [.ty "list", .ty "tuple"]] = ret (.bl false) := isi2 (n := "str") (r1 := false) (r2 := false) rfl (by decide +kernel) (by decide +kernel)
@[simp] theorem isi_non_int : isiU ktB [.non, .ty "int"] = ret (.bl false) := isi1 (n := "NoneType") rfl (by decide +kernel)
@[simp] theorem isi_non_bool : isiU ktB [.non, .ty "bool"] = ret (.bl false) := isi1 (n := "NoneType") rfl (by decide +kernel)
@[simp] theorem isi_non_lt : isiU ktB [.non, .tup [.ty "list", .ty "tuple"]] = ret (.bl false) := isi2 (n := "NoneType") (r1 := false) (r2 := false) rfl (by decide +kernel) (by decide +kernel)
theorem l_like (n : Nat) : ∀ (u : U) (st : List U), Da n u → m__law_like n [u, u] st = .ok (.bl true) st := by
  induction n with
  | zero => exact fun _ _ h => h.elim
  | succ n ihn =>
    intro u st h
    show mkF 3 (b__law_like (m__law_like n)) [u, u] st = _
    rcases h with ⟨i, rfl⟩ | ⟨i, rfl, hs⟩ | ⟨i, rfl⟩ | rfl | ⟨us, hu, hl, hx⟩
    · simp [b__law_like, ktL, eqU_int, eqU_bl, isi_int_lt, isi_int_bool]
    · simp [b__law_like, ktL, eqU_str hs hs, eqU_bl]
    · simp [b__law_like, ktL, eqU_bl, isi_bl_lt, isi_bl_bool]
    · simp [b__law_like, ktL, eqU_non, eqU_bl]
    · have c1 : ∀ {u : U}, (u = .lst us ∨ u = .tup us) → x__law_like_1 (m__law_like n) ⟨[.val u, .val u, .no], st⟩ = .ok (.lst ((List.range us.length).map fun _ => .bl true)) ⟨[.val u, .val u, .no], st⟩ := by
        intro u hu
        rw [X__law_like_1]
        refine lc_map (fun (i : Nat) => U.int (i : Int)) (fun _ => .bl true) (xs := List.range us.length) ?_ (by simp) ?_ (by rw [List.length_range]; exact Nat.le_trans hl (by decide))
        · rcases hu with rfl | rfl <;> exact rngM_s (by simp) (by omega)
        · intro k hk
          have hk := List.mem_range.mp hk
          have ih := ihn us[k] st (hx _ (List.getElem_mem hk))
          rcases hu with rfl | rfl <;> simp [X__law_like_1b, List.getElem?_eq_getElem hk, ih]
      rcases hu with rfl | rfl
      · simp [b__law_like, ktL, eqU_int, eqU_bl, isi_lst_lt, isi_lst_list, isi_lst_tuple, c1 (.inl rfl), all_tt]
      · simp [b__law_like, ktL, eqU_int, eqU_bl, isi_tup_lt, isi_tup_list, isi_tup_tuple, c1 (.inr rfl), all_tt]
theorem da_q {n : Nat} (x : Rat) : Da (n + 2) (qU x) := .inr (.inr (.inr (.inr ⟨_, .inr rfl, by simp, fun y hy => by
  simp only [List.mem_cons, List.not_mem_nil, or_false] at hy
  rcases hy with rfl | rfl <;> exact .inl ⟨_, rfl⟩⟩)))
theorem da_i {n : Nat} (i : Int) : Da (n + 1) (.int i) := .inl ⟨i, rfl⟩
theorem da_l {n : Nat} {us : List U} (hl : us.length ≤ 1000) (h : ∀ x ∈ us, Da n x) : Da (n + 1) (.lst us) := .inr (.inr (.inr (.inr ⟨us, .inl rfl, hl, h⟩)))
theorem da_t {n : Nat} {us : List U} (hl : us.length ≤ 1000) (h : ∀ x ∈ us, Da n x) : Da (n + 1) (.tup us) := .inr (.inr (.inr (.inr ⟨us, .inr rfl, hl, h⟩)))
theorem da_s {n : Nat} {x : PySem.Str} (h : strOk x) : Da (n + 1) (.str x) := .inr (.inl ⟨x, rfl, h⟩)
theorem da_b {n : Nat} (x : Bool) : Da (n + 1) (.bl x) := .inr (.inr (.inl ⟨x, rfl⟩))
theorem da_n {n : Nat} : Da (n + 1) .non := .inr (.inr (.inr (.inl rfl)))
end Br

namespace Br
open Mi
/-! cells -/
abbrev Lc (c : Nat) : Prop := 97 ≤ c ∧ c ≤ 122
theorem ch_ok {c : Nat} (h : Lc c) : strOk (ch c) := by
  unfold strOk PySem.PyData.strOk ch
  have : c < 0x110000 := by omega
  simpa using this
theorem occ_small : ∀ k : Fin 26, (PySem.Builtin.Str.occurrences (PySem.Str.ofString "abcdefghijklmnopqrstuvwxyz") (ch (97 + k.val)) 0 (PySem.Str.ofString "abcdefghijklmnopqrstuvwxyz").length 1).isEmpty = false := by decide +kernel
/-! points -/
abbrev Ptv := List (Nat × Rat)
def keyC (c : Nat) : L2.Key := .inr (ch c)
theorem keyC_inj (a b : Nat) (h : keyC a = keyC b) : a = b := by
  unfold keyC at h
  exact ch_inj (Sum.inr.inj h)
def dU (ps : Ptv) : U := .dK (ps.map fun p => (keyC p.1, qU p.2))
theorem noR_q (j : Nat) (x : Rat) : noR j (qU x) = true := by simp [qU, noR, noRs]
theorem noR_d (j : Nat) (ps : Ptv) : noR j (dU ps) = true := by
  unfold dU noR
  refine noRd_all fun u hu => ?_
  obtain ⟨p, _, rfl⟩ := List.mem_map.mp hu
  exact noR_q j p.2
theorem noR_box {b : U} (h : BoxOk b) (j : Nat) : noR j b = true := by
  obtain ⟨cells, i, h, s, rfl, _⟩ := h
  have : noRs j (cells.map U.int) = true := noRs_all fun u hu => by
    obtain ⟨c, _, rfl⟩ := List.mem_map.mp hu
    simp [noR]
  simp [boxU, noR, noRs, this]
/-- a row (cell, number) -/
def rowU (p : Nat × Nm) : U := .tup [.str (ch p.1), nmU p.2]
structure Row (p : Nat × Nm) : Prop where
  c : Lc p.1
  g : p.2.Good
def rowQ (p : Nat × Nm) : Nat × Rat := (p.1, nmQ p.2)
/-- by keys ascending -/
def srtP (ps : Ptv) : Ptv := (srtN (ps.map (·.1))).map fun c => (c, (getG ps c).getD 0)
theorem in_d (ps : Ptv) (c : Nat) : inU false (.str (ch c)) (dU ps) = ret (.bl (getG ps c).isSome) := by
  have e := getG_map keyC qU keyC_inj ps c
  unfold dU inU
  show (ret (U.bl (xor false (getG (ps.map fun p => (keyC p.1, qU p.2)) (keyC c)).isSome)) : M U) = _
  rw [e]
  simp
theorem getD_q (ps : Ptv) {c : Nat} (h : c ∈ ps.map (·.1)) : getG (ps.map fun p => (keyC p.1, qU p.2)) (keyC c) = some (qU ((getG ps c).getD 0)) := by
  rw [getG_map keyC qU keyC_inj ps c]
  obtain ⟨v, e⟩ := getG_some h
  rw [e]; rfl
theorem set_d (ps : Ptv) (c : Nat) (v : Rat) (h : ps.length < PySem.sizeLine) : setI (qU v) (.str (ch c)) (dU ps) = some (dU (putG ps c v)) := by
  have e := putG_map keyC qU keyC_inj ps c v
  unfold dU setI
  show (if (ps.map fun p => (keyC p.1, qU p.2)).length < PySem.sizeLine then some (U.dK (putG (ps.map fun p => (keyC p.1, qU p.2)) (keyC c) (qU v))) else none) = _
  rw [List.length_map, if_pos h, e]
@[simp] theorem ct_dU (ps : Ptv) (s : MS) : ct (dU ps) s = .ok (dU ps) s := (rfl)
@[simp] theorem sorted_dU {ps : Ptv} (h : ps.length < 64) (s : MS) : sortedU [dU ps] s = .ok (.lst ((srtN (ps.map (·.1))).map fun c => .str (ch c))) s := by
  have sd := sorted_d (fun p : Nat × Rat => ch p.1) (fun p => qU p.2) ps h s
  rw [show (ps.map fun p : Nat × Rat => ch p.1) = (ps.map (·.1)).map ch by rw [List.map_map]; rfl, srt_ch, List.map_map] at sd
  exact sd
theorem ix_dU {ps : Ptv} {c : Nat} (h : c ∈ ps.map (·.1)) (s : MS) : ixV (dU ps) (.str (ch c)) s = .ok (qU ((getG ps c).getD 0)) s := by
  unfold dU
  exact ix_d (q := keyC c) rfl (getD_q ps h) s
end Br

namespace Br
open Mi PySem
/-! a thing equals itself -/
theorem dats_of {n : Nat} : ∀ us : List U, (∀ u ∈ us, ∃ d, dat u = some d ∧ d.canLay0 = true ∧ d.depth ≤ n) → ∃ ds, dats us = some ds ∧ PyData.canLayAll0 ds = true ∧ PyData.depthAll ds ≤ n
  | [], _ => ⟨[], rfl, rfl, Nat.zero_le _⟩
  | u :: us, h => by
    obtain ⟨d, e1, e2, e3⟩ := h u (by simp)
    obtain ⟨ds, k1, k2, k3⟩ := dats_of us fun v hv => h v (by simp [hv])
    exact ⟨d :: ds, by simp [dats, e1, k1], by simp [PyData.canLayAll0, e2, k2], by simp only [PyData.depthAll]; omega⟩
theorem da_dat (n : Nat) : ∀ u, Da n u → ∃ d, dat u = some d ∧ d.canLay0 = true ∧ d.depth ≤ n := by
  induction n with
  | zero => exact fun u h => h.elim
  | succ n ih =>
    rintro u (⟨i, rfl⟩ | ⟨x, rfl, hs⟩ | ⟨b, rfl⟩ | rfl | ⟨us, hu, _, hx⟩)
    · exact ⟨.int i, rfl, rfl, Nat.zero_le _⟩
    · exact ⟨.str x, rfl, hs, Nat.zero_le _⟩
    · exact ⟨.bool b, rfl, rfl, Nat.zero_le _⟩
    · exact ⟨.none, rfl, rfl, Nat.zero_le _⟩
    · obtain ⟨ds, e1, e2, e3⟩ := dats_of us fun v hv => ih v (hx v hv)
      rcases hu with rfl | rfl
      · exact ⟨.list ds, by simp [dat, e1], e2, Nat.succ_le_succ e3⟩
      · exact ⟨.tuple ds, by simp [dat, e1], e2, Nat.succ_le_succ e3⟩
theorem eq_self {n : Nat} {u : U} (h : Da n u) (hn : n ≤ 64) (neg : Bool) : eqU neg u u = ret (.bl (xor neg true)) := by
  obtain ⟨d, e1, e2, e3⟩ := da_dat n u h
  have sh : SeqAt.shaped d = true := by unfold SeqAt.shaped; rw [e2, decide_eq_true (Nat.le_trans e3 hn)]; rfl
  unfold eqU
  rw [e1]
  show when (SeqAt.shaped d && SeqAt.shaped d) _ = _
  rw [sh, SeqAt.eqv_refl d e2]
  rfl
/-! texts of cells -/
/-! texts of cells -/
def txt (cs : List Nat) : Str := ⟨cs.toArray⟩
theorem txt_len (cs : List Nat) : (txt cs).length = cs.length := by show cs.toArray.size = _; simp
theorem txt_size (cs : List Nat) : (txt cs).cps.size = cs.length := txt_len cs
theorem txt_items (cs : List Nat) : (txt cs).cps.toList.map (fun c => U.str ⟨#[c]⟩) = cs.map fun c => .str (ch c) := by show cs.toArray.toList.map _ = _; simp [ch]
@[simp] theorem items_txt (cs : List Nat) : itemsU (.str (txt cs)) = ret (cs.map fun c => .str (ch c)) := by rw [items_s, txt_items]
theorem signs_txt (cs : List Nat) : signs (txt cs) = cs.map ch := by unfold signs; show cs.toArray.toList.map _ = _; simp [ch]
theorem join_go : ∀ (cs : List Nat) (acc : Array Nat), (cs.map ch).foldl (fun acc p => acc ++ (Str.ofString "").cps ++ p.cps) acc = acc ++ cs.toArray
  | [], acc => by simp
  | c :: cs, acc => by
    rw [List.map_cons, List.foldl_cons, join_go cs]
    have e : (Str.ofString "").cps = #[] := by decide +kernel
    rw [e]; simp [ch]
theorem join_ch (cs : List Nat) : Txt.join (Str.ofString "") (cs.map ch) = txt cs := by
  show (⟨_⟩ : Str) = ⟨_⟩
  congr 1
  cases cs with
  | nil => rfl
  | cons c cs =>
    show ((cs.map ch).foldl _ (ch c).cps) = _
    rw [join_go]; simp [ch]
theorem insT_new : ∀ (cs : List Nat) (acc : List Nat), (acc ++ cs).Nodup → (cs.map ch).foldl insT (acc.reverse.map ch) = ((acc ++ cs).reverse).map ch
  | [], acc, _ => by simp
  | c :: cs, acc, h => by
    have hn : c ∉ acc := fun z => by rw [List.nodup_append] at h; exact h.2.2 c z c (by simp) rfl
    have e : insT (acc.reverse.map ch) (ch c) = ((acc ++ [c]).reverse).map ch := by
      unfold insT
      rw [if_neg (by intro z; obtain ⟨d, hd, e⟩ := List.mem_map.mp z; rw [ch_inj e] at hd; exact hn (List.mem_reverse.mp hd))]
      simp
    rw [List.map_cons, List.foldl_cons, e, insT_new cs (acc ++ [c]) (by simpa using h)]
    simp
/-- ascending -/
def Asc (cs : List Nat) : Prop := cs.Pairwise (· < ·)
theorem Asc.nodup {cs : List Nat} (h : Asc cs) : cs.Nodup := h.imp fun h => Nat.ne_of_lt h
theorem Asc.srt {cs : List Nat} (h : Asc cs) : srtN cs = cs := (srtN_of (List.Perm.refl cs) (h.imp fun h => Nat.le_of_lt h)).symm
theorem srt_perm_asc {cs l : List Nat} (h : Asc cs) (p : l.Perm cs) : srtN l = cs := (srtN_of p.symm (h.imp fun h => Nat.le_of_lt h)).symm
theorem set_asc {cs : List Nat} (h : Asc cs) : srt ((signs (txt cs)).foldl insT []) = cs.map ch := by
  have e := insT_new cs [] (by simpa using h.nodup)
  rw [signs_txt, show ([] : List Str) = ([] : List Nat).reverse.map ch from rfl, e, srt_ch]
  congr 1
  exact srt_perm_asc h (by simpa using List.reverse_perm cs)
theorem sz_line {n : Nat} (h : n < 1000) : n ≤ sizeLine := Nat.le_trans (Nat.le_of_lt h) (by decide)
structure Cells (cs : List Nat) : Prop where
  a : Asc cs
  c : ∀ c ∈ cs, Lc c
  l : cs.length ≤ 7
theorem Cells.l64 {cs : List Nat} (h : Cells cs) : cs.length < 64 := Nat.lt_of_le_of_lt h.l (by decide)
theorem Cells.ln {cs : List Nat} (h : Cells cs) : cs.length ≤ sizeLine := sz_line (Nat.lt_of_le_of_lt h.l (by decide))
theorem strs_cells (cs : List Nat) : cs.map (fun c => U.str (ch c)) = (cs.map ch).map .str := by rw [List.map_map]; rfl
/-! methods of points -/
structure Pt (ps : Ptv) : Prop where
  a : Asc (ps.map (·.1))
  c : ∀ p ∈ ps, Lc p.1
  v : ∀ p ∈ ps, Ok4 p.2
  l : ps.length ≤ 8
theorem Pt.ln {ps : Ptv} (h : Pt ps) : ps.length ≤ sizeLine := sz_line (Nat.lt_of_le_of_lt h.l (by decide))
theorem keys_dU (ps : Ptv) : (ps.map fun p => (keyC p.1, qU p.2)).map (fun q => kU q.1) = (ps.map (·.1)).map fun c => .str (ch c) := by
  rw [List.map_map, List.map_map]; rfl
@[simp] theorem items_dU (ps : Ptv) : itemsU (dU ps) = ret (ps.map fun p => .str (ch p.1)) := by
  unfold dU; rw [items_d, List.map_map]; rfl
@[simp] theorem listV_dU (ps : Ptv) : listV [dU ps] = ret (.lst ((ps.map fun p => ch p.1).map .str)) := by
  unfold dU; rw [listV_d, List.map_map, List.map_map]; rfl
@[simp] theorem len_dU (ps : Ptv) : lenU [dU ps] = ret (.int ps.length) := by unfold dU; rw [len_d, List.length_map]
def pairU' (p : Nat × Rat) : U := .tup [.str (ch p.1), qU p.2]
theorem okD (x y : Rat) : okDat (.tuple [.int x.num, .int x.den]) (.tuple [.int y.num, .int y.den]) = true := by
  have sh : ∀ a b : Int, SeqAt.shaped (.tuple [.int a, .int b]) = true := fun a b => by simp [SeqAt.shaped, PyData.canLay0, PyData.canLayAll0, PyData.depth, PyData.depthAll]
  unfold okDat; rw [sh, sh]; rfl
theorem eqDL_q (qs : Ptv) : ∀ ps : Ptv, eqDL (qs.map fun p => (keyC p.1, qU p.2)) (ps.map fun p => (keyC p.1, qU p.2)) = some (ps.all fun p => decide (getG qs p.1 = some p.2))
  | [] => rfl
  | p :: ps => by
    rw [List.map_cons, eqDL, getG_map keyC qU keyC_inj qs p.1, eqDL_q qs ps]
    cases e : getG qs p.1 with
    | none => simp [e]
    | some y =>
      show (if okDat (.tuple [.int p.2.num, .int p.2.den]) (.tuple [.int y.num, .int y.den]) = true then some (PyData.eqv (.tuple [.int p.2.num, .int p.2.den]) (.tuple [.int y.num, .int y.den]) && _) else none) = _
      rw [if_pos (okD _ _)]
      have z : PyData.eqv (.tuple [.int p.2.num, .int p.2.den]) (.tuple [.int y.num, .int y.den]) = decide (y = p.2) := by
        rw [Bool.eq_iff_iff, decide_eq_true_eq]
        simp only [PyData.eqv, PyData.eqvAll, Bool.and_true, Bool.and_eq_true, beq_iff_eq]
        exact ⟨fun h => (q_inj.mpr h).symm, fun h => q_inj.mp h.symm⟩
      rw [z]
      simp [e]
def eqP (ps qs : Ptv) : Bool := ps.length == qs.length && ps.all fun p => decide (getG qs p.1 = some p.2)
theorem eqX_d (ps qs : Ptv) : eqX false (dU ps) (dU qs) = ret (.bl (eqP ps qs)) := by
  show (match eqDL (qs.map fun p => (keyC p.1, qU p.2)) (ps.map fun p => (keyC p.1, qU p.2)) with
    | some b => (Mi.ret (U.bl (xor false ((ps.map fun p : Nat × Rat => (keyC p.1, qU p.2)).length == (qs.map fun p : Nat × Rat => (keyC p.1, qU p.2)).length && b))) : M U)
    | none => stk) = _
  rw [eqDL_q]
  show Mi.ret (U.bl (xor false _)) = _
  rw [Bool.false_xor, List.length_map, List.length_map]
  rfl
theorem eqP_self {ps : Ptv} (h : Pt ps) : eqP ps ps = true := by
  unfold eqP
  rw [Bool.and_eq_true]
  exact ⟨by simp, List.all_eq_true.mpr fun p hp => decide_eq_true (getG_nodup h.a.nodup (show (p.1, p.2) ∈ ps from hp))⟩
/-! texts -/
def itx (i : Int) : Str := (toString i : String)
def rtx (x : Rat) : Str := if x.den = 1 then itx x.num else itx x.num ++ Str.ofString "/" ++ itx (x.den : Int)
theorem str_i' (i : Int) : strU [.int i] = when (decide (i.natAbs.log2 < 1920)) (ret (.str (itx i))) := (rfl)
theorem fmt_i' (i : Int) : fmtU (.int i) = when (decide (i.natAbs.log2 < 1920)) (ret (.str (itx i))) := (rfl)
end Br

namespace Br
open Mi PySem
theorem empty_app (a : Str) : Str.empty ++ a = a := by
  show (⟨#[] ++ a.cps⟩ : Str) = a
  simp
theorem itx_len {i : Int} {k : Nat} (hk : 0 < k) (h : i.natAbs < 2 ^ k) : (itx i).length ≤ k + 1 := by
  have e := int_text_length_le (a := i) (k := k) hk (by
    by_cases z : i.natAbs = 0
    · rw [z]; simpa using hk
    · exact (Nat.log2_lt z).mpr h)
  unfold itx; rw [ofString_length]; exact e
theorem log_lt {n k : Nat} (hk : 0 < k) (h : n < 2 ^ k) : n.log2 < k := by
  by_cases z : n = 0
  · rw [z]; simpa using hk
  · exact (Nat.log2_lt z).mpr h
theorem ln (a b : Str) : (a ++ b).length = a.length + b.length := Str.length_append a b
theorem sep_len : (Str.ofString "/").length = 1 := by decide +kernel
theorem rtx_len {x : Rat} {k : Nat} (hk : 0 < k) (h : Sz k x) : (rtx x).length ≤ 2 * k + 3 := by
  have h1 := itx_len hk h.a
  have h2 := itx_len (i := (x.den : Int)) hk h.b
  unfold rtx
  split
  · omega
  · rw [ln, ln, sep_len]; omega
theorem le_line {n : Nat} (h : n ≤ 1000000) : n ≤ sizeLine := by rw [sizeLine_eq]; omega
theorem e_ratio_text {x : Rat} (h : Sz 31 x) (st : List U) : m_ratio_text [qU x] st = .ok (.str (rtx x)) st := by
  have c : ∀ st, m_checked [.tup [.int x.num, .int x.den]] st = .ok (.tup [.int x.num, .int x.den]) st := fun st => e_checked_q (h.mono (by decide) : Ok4 x) st
  have g1 : x.num.natAbs.log2 < 1920 := Nat.lt_trans (log_lt (by decide) h.a) (by decide)
  have g2 : x.den.log2 < 1920 := Nat.lt_trans (log_lt (by decide) h.b) (by decide)
  have h1 := itx_len (i := x.num) (k := 31) (by decide) h.a
  have h2 := itx_len (i := (x.den : Int)) (k := 31) (by decide) h.b
  by_cases e : x.den = 1
  · have ei : ((x.den : Int) = 1) := by omega
    rw [ei] at c
    simp [m_ratio_text, b_ratio_text, c, qU, eqU_int, ei, g1, rtx, e, -str_i, -fmt_i, str_i', fmt_i']
  · have ei : ¬ ((x.den : Int) = 1) := by omega
    have k1 : (Str.empty ++ itx x.num).length ≤ sizeLine := by rw [empty_app]; exact le_line (by omega)
    have k2 : (itx x.num ++ Str.ofString "/").length ≤ sizeLine := by rw [ln, sep_len]; exact le_line (by omega)
    have k3 : (itx x.num ++ Str.ofString "/" ++ itx (x.den : Int)).length ≤ sizeLine := by rw [ln, ln, sep_len]; exact le_line (by omega)
    simp only [empty_app] at k1
    simp [m_ratio_text, b_ratio_text, c, qU, eqU_int, ei, g1, g2, rtx, e, empty_app, k1, k2, k3, -str_i, -fmt_i, str_i', fmt_i']
theorem l_text {x : Rat} (h : Sz 31 x) (st : List U) : m__law_text [qU x] st = .ok (.str (rtx x)) st := by
  have g1 : x.num.natAbs.log2 < 1920 := Nat.lt_trans (log_lt (by decide) h.a) (by decide)
  have g2 : x.den.log2 < 1920 := Nat.lt_trans (log_lt (by decide) h.b) (by decide)
  have h1 := itx_len (i := x.num) (k := 31) (by decide) h.a
  have h2 := itx_len (i := (x.den : Int)) (k := 31) (by decide) h.b
  by_cases e : x.den = 1
  · have ei : ((x.den : Int) = 1) := by omega
    simp [m__law_text, b__law_text, qU, eqU_int, ei, g1, rtx, e, -str_i, -fmt_i, str_i', fmt_i']
  · have ei : ¬ ((x.den : Int) = 1) := by omega
    have k2 : (itx x.num).length + (Str.ofString "/").length ≤ sizeLine := by rw [sep_len]; exact le_line (by omega)
    have k3 : (itx x.num ++ Str.ofString "/").length + (itx (x.den : Int)).length ≤ sizeLine := by rw [ln, sep_len]; exact le_line (by omega)
    simp [m__law_text, b__law_text, qU, eqU_int, ei, g1, g2, rtx, e, k2, k3, -str_i, -fmt_i, str_i', fmt_i']
end Br

namespace Br
open Mi PySem
/-! texts of points -/
def wordP (p : Nat × Rat) : Str := ch p.1 ++ Str.ofString "=" ++ rtx p.2
def ptx (ps : Ptv) : Str := if ps = [] then Str.ofString "-" else Txt.join (Str.ofString " ") (ps.map wordP)
theorem eq_len : (Str.ofString "=").length = 1 := by decide +kernel
theorem sp_len : (Str.ofString " ").length = 1 := by decide +kernel
theorem word_len {p : Nat × Rat} (h : Sz 31 p.2) : (wordP p).length ≤ 100 := by
  have := rtx_len (k := 31) (by decide) h
  unfold wordP; rw [ln, ln, ch_len, eq_len]; omega
theorem words_sum : ∀ ps : Ptv, (∀ p ∈ ps, Sz 31 p.2) → ((ps.map wordP).map (·.length)).sum ≤ 100 * ps.length
  | [], _ => Nat.le_refl _
  | p :: ps, h => by
    have h1 := word_len (h p (by simp))
    have h2 := words_sum ps fun q hq => h q (by simp [hq])
    simp only [List.map_cons, List.sum_cons, List.length_cons]; omega
theorem join_len (a : Str) (l : List Str) (b : Nat) (h : (l.map (·.length)).sum + l.length * a.length ≤ b) : (Txt.join a l).length ≤ b := by
  show (PySem.Builtin.Str.glued a l).length ≤ b
  rw [StrLaws.glued_eq_join]
  exact Nat.le_trans (StrLaws.join_length_le a l) h
structure Ps (ps : Ptv) : Prop extends Pt ps where
  s : ∀ p ∈ ps, Sz 31 p.2
theorem dash_len : (Str.ofString "-").length = 1 := by decide +kernel
theorem ptx_len {ps : Ptv} (h : Ps ps) : (ptx ps).length ≤ 1000 := by
  unfold ptx
  split
  · rw [dash_len]; decide
  · have hw := words_sum ps h.s
    have hl := h.l
    exact join_len _ _ _ (by rw [sp_len, List.length_map]; omega)
def rtxP (ps : Ptv) : Str := Str.ofString "Point(" ++ ptx ps ++ Str.ofString ")"
theorem par_len : (Str.ofString "Point(").length = 6 := by decide +kernel
theorem par2_len : (Str.ofString ")").length = 1 := by decide +kernel
/-! points made of others -/
theorem srtP_asc {ps qs : Ptv} (h : Asc (ps.map (·.1))) (p : qs.Perm ps) : srtP qs = ps := by
  unfold srtP
  rw [srt_perm_asc h (p.map (·.1)), List.map_map]
  have nd : (qs.map (·.1)).Nodup := ((p.map (·.1)).nodup_iff).mpr h.nodup
  conv => rhs; rw [← List.map_id ps]
  refine List.map_congr_left fun q hq => ?_
  show (q.1, (getG qs q.1).getD 0) = q
  rw [getG_nodup nd (show (q.1, q.2) ∈ qs from p.mem_iff.mpr hq)]
  rfl
theorem noR_st {b : U} (hb : BoxOk b) (j : Nat) : noRs j [.tbl "law", b] = true := noRs_all (by simp [noR_box hb, noR])
end Br

namespace Br
open Mi PySem
/-! draws -/
theorem ne_nil (ls : List U) (h : ls ≠ []) (hd : ∀ u ∈ ls, Da 6 u) : eqU true (.lst ls) (.lst []) = ret (.bl true) := by
  obtain ⟨ds, e1, e2, e3⟩ := dats_of ls fun u hu => da_dat 6 u (hd u hu)
  have sh : SeqAt.shaped (.list ds) = true := by
    unfold SeqAt.shaped
    rw [Bool.and_eq_true]
    exact ⟨e2, decide_eq_true (show PyData.depthAll ds + 1 ≤ 64 by omega)⟩
  have hn : PyData.eqv (.list ds) (.list []) = false := by
    cases ls with
    | nil => exact absurd rfl h
    | cons u us =>
      cases ds with
      | nil => unfold dats at e1; cases q1 : dat u <;> cases q2 : dats us <;> rw [q1, q2] at e1 <;> cases e1
      | cons d ds => rfl
  unfold eqU
  rw [show dat (.lst ls) = some (.list ds) by simp [dat, e1], show dat (.lst []) = some (.list []) from rfl]
  show when (SeqAt.shaped (.list ds) && SeqAt.shaped (.list [])) _ = _
  rw [sh, hn]
  rfl
theorem perm_map {α β : Type} {f : α → β} {vs ws : List β} (p : vs.Perm ws) : ∀ l : List α, ws = l.map f → ∃ l' : List α, vs = l'.map f ∧ l'.Perm l := by
  induction p with
  | nil => intro l e; exact ⟨[], rfl, by cases l with | nil => exact .refl _ | cons => cases e⟩
  | cons x p ih =>
    intro l e
    cases l with
    | nil => cases e
    | cons a l =>
      rw [List.map_cons] at e
      obtain ⟨e1, e2⟩ := List.cons.inj e
      obtain ⟨l', e3, p'⟩ := ih l e2
      exact ⟨a :: l', by rw [List.map_cons, e1, e3], p'.cons a⟩
  | swap x y l0 =>
    intro l e
    match l, e with
    | a :: b :: l, e =>
      rw [List.map_cons, List.map_cons] at e
      obtain ⟨e1, e2⟩ := List.cons.inj e
      obtain ⟨e2, e3⟩ := List.cons.inj e2
      exact ⟨b :: a :: l, by rw [List.map_cons, List.map_cons, e1, e2, e3], .swap ..⟩
  | trans p q ih1 ih2 =>
    intro l e
    obtain ⟨l1, e1, p1⟩ := ih2 l e
    obtain ⟨l2, e2, p2⟩ := ih1 l1 e1
    exact ⟨l2, e2, p2.trans p1⟩
theorem pop_k (us : List U) (k : Nat) (h : k < us.length) : popP (k : Int) (.lst us) = some (us[k], .lst (us.eraseIdx k)) := by
  show (popI us (k : Int)).map _ = _
  unfold popI L2.ixN
  rw [if_pos (by omega), if_pos (by omega)]
  simp [h]
end Br

namespace Br
open Mi PySem
theorem cut_A : ∀ k : Fin 8, L2.cutS (Str.ofString "abcdefg") none (some (k.val : Int)) = txt ([97, 98, 99, 100, 101, 102, 103].take k.val) := by decide +kernel
theorem cut_B : ∀ k : Fin 8, L2.cutS (Str.ofString "behkmqz") none (some (k.val : Int)) = txt ([98, 101, 104, 107, 109, 113, 122].take k.val) := by decide +kernel
theorem cut_C : ∀ k : Fin 8, L2.cutS (Str.ofString "adgjxyz") none (some (k.val : Int)) = txt ([97, 100, 103, 106, 120, 121, 122].take k.val) := by decide +kernel
theorem cells_take {l : List Nat} (ha : Asc l) (hc : ∀ c ∈ l, Lc c) (hl : l.length = 7) (k : Nat) : Cells (l.take k) :=
  ⟨List.Pairwise.sublist (List.take_sublist k l) ha, fun c h => hc c (List.mem_of_mem_take h), by rw [List.length_take]; omega⟩
theorem pairs_d : ∀ ps : Ptv, pairsU (ps.map pairU') = some (ps.map fun p => (keyC p.1, qU p.2))
  | [] => rfl
  | p :: ps => by rw [List.map_cons, pairsU, pairs_d ps]; rfl
theorem putAll_new : ∀ (ps acc : Ptv), (acc ++ ps |>.map (·.1)).Nodup → putAll (acc.map fun p => (keyC p.1, qU p.2)) (ps.map fun p => (keyC p.1, qU p.2)) = (acc ++ ps).map fun p => (keyC p.1, qU p.2)
  | [], acc, _ => by simp [putAll]
  | p :: ps, acc, h => by
    have hx : p.1 ∉ acc.map (·.1) := fun z => by
      rw [List.map_append, List.nodup_append] at h
      exact h.2.2 p.1 z p.1 (by simp) rfl
    have e := putG_map keyC qU keyC_inj acc p.1 p.2
    rw [putG_new _ hx] at e
    show putAll (putG (acc.map fun p => (keyC p.1, qU p.2)) (keyC p.1) (qU p.2)) (ps.map fun p => (keyC p.1, qU p.2)) = _
    rw [e, putAll_new ps (acc ++ [(p.1, p.2)]) (by simpa using h)]
    simp
theorem dictV_p {ps : Ptv} (h : (ps.map (·.1)).Nodup) (s : MS) : dictV [.lst (ps.map pairU')] s = .ok (dU ps) s := by
  show (match pairsU (ps.map pairU') with | some kvs => Res.ok (U.dK (putAll [] kvs)) s | none => Res.stuck) = _
  rw [pairs_d]
  show Res.ok (U.dK (putAll [] (ps.map fun p => (keyC p.1, qU p.2)))) s = _
  have z := putAll_new ps [] (by simpa using h)
  rw [show ([] : List (L2.Key × U)) = ([] : Ptv).map fun p => (keyC p.1, qU p.2) from rfl, z]
  rfl
end Br

namespace Br
open Mi PySem
theorem compL_fdraw {α : Type} (r f : α → U) (B : U → Prop) {vs : List Nat} {g : U → M Unit} {t : M Bool} {e : M U} {E : List Sl} {st : List U} : ∀ (xs : List α) (acc : List U) (b : U), B b →
    (∀ x ∈ xs, ∀ b, B b → ∃ q b' E1, (g (r x) ⟨E, .tbl "law" :: b :: st⟩ = .ok () ⟨E1, .tbl "law" :: b :: st⟩ ∧ t ⟨E1, .tbl "law" :: b :: st⟩ = .ok q ⟨E1, .tbl "law" :: b' :: st⟩) ∧ B b' ∧ (∃ E2, e ⟨E1, .tbl "law" :: b' :: st⟩ = .ok (f x) ⟨E2, .tbl "law" :: b' :: st⟩ ∧ wipeE E2 vs = E) ∧ wipeE E1 vs = E) → acc.length + xs.length ≤ sizeLine →
    ∃ (ys : List α) (b' : U), compL vs g t e acc (xs.map r) ⟨E, .tbl "law" :: b :: st⟩ = .ok (acc ++ ys.map f) ⟨E, .tbl "law" :: b' :: st⟩ ∧ ys.Sublist xs ∧ B b'
  | [], acc, b, hb, _, _ => ⟨[], b, by show Res.ok acc _ = _; simp, .slnil, hb⟩
  | x :: xs, acc, b, hb, h, hl => by
    obtain ⟨q, b', E1, ⟨e1, e2⟩, hb', ⟨E2, e3, e4⟩, e5⟩ := h x (by simp) b hb
    simp only [List.length_cons] at hl
    rw [List.map_cons]
    unfold compL
    rw [bd_ok e1, bd_ok e2]
    cases q with
    | false =>
      obtain ⟨ys, b2, k1, k2, k3⟩ := compL_fdraw r f B xs acc b' hb' (fun y hy => h y (by simp [hy])) (by omega)
      refine ⟨ys, b2, ?_, k2.cons _, k3⟩
      show compL vs g t e acc (xs.map r) ⟨wipeE E1 vs, .tbl "law" :: b' :: st⟩ = _
      rw [e5, k1]
    | true =>
      obtain ⟨ys, b2, k1, k2, k3⟩ := compL_fdraw r f B xs (acc ++ [f x]) b' hb' (fun y hy => h y (by simp [hy])) (by simp only [List.length_append, List.length_cons, List.length_nil]; omega)
      refine ⟨x :: ys, b2, ?_, k2.cons₂ _, k3⟩
      show bd e _ ⟨E1, .tbl "law" :: b' :: st⟩ = _
      rw [bd_ok e3, when_d (show acc.length < sizeLine by omega)]
      show compL vs g t e (acc ++ [f x]) (xs.map r) ⟨wipeE E2 vs, .tbl "law" :: b' :: st⟩ = _
      rw [e4, k1]
      simp
theorem lc_fdraw {α : Type} (r f : α → U) (B : U → Prop) {xs : List α} {vs : List Nat} {mi : M (List U)} {g : U → M Unit} {t : M Bool} {e : M U} {s : MS} {E0 : List Sl} {b : U} {st : List U} (hb : B b) (h1 : mi s = .ok (xs.map r) ⟨E0, .tbl "law" :: b :: st⟩) (hn : noOwn E0 vs = true)
    (he : ∀ x ∈ xs, ∀ b, B b → ∃ q b' E1, (g (r x) ⟨wipeE E0 vs, .tbl "law" :: b :: st⟩ = .ok () ⟨E1, .tbl "law" :: b :: st⟩ ∧ t ⟨E1, .tbl "law" :: b :: st⟩ = .ok q ⟨E1, .tbl "law" :: b' :: st⟩) ∧ B b' ∧ (∃ E2, e ⟨E1, .tbl "law" :: b' :: st⟩ = .ok (f x) ⟨E2, .tbl "law" :: b' :: st⟩ ∧ wipeE E2 vs = wipeE E0 vs) ∧ wipeE E1 vs = wipeE E0 vs) (hl : xs.length ≤ sizeLine) :
    ∃ (ys : List α) (b' : U), lcM vs mi g t e s = .ok (.lst (ys.map f)) ⟨E0, .tbl "law" :: b' :: st⟩ ∧ ys.Sublist xs ∧ B b' := by
  obtain ⟨ys, b', k1, k2, k3⟩ := compL_fdraw r f B xs [] b hb he (by simpa using hl)
  refine ⟨ys, b', ?_, k2, k3⟩
  unfold lcM
  rw [bd_ok h1]
  show when (noOwn E0 vs) _ _ = _
  rw [hn]
  show finL vs E0 (compL vs g t e [] (xs.map r) ⟨wipeE E0 vs, .tbl "law" :: b :: st⟩) = _
  rw [k1]
  show Res.ok (U.lst ([] ++ ys.map f)) (⟨backE E0 (wipeE E0 vs) vs, .tbl "law" :: b' :: st⟩ : MS) = _
  rw [back_wipe]; rfl
/-! a point with another value -/
theorem srtP_perm {L : Ptv} (h : (L.map (·.1)).Nodup) : L.Perm (srtP L) ∧ Asc ((srtP L).map (·.1)) := by
  have hp := srtN_perm (L.map (·.1))
  have hk : (srtP L).map (·.1) = srtN (L.map (·.1)) := by unfold srtP; rw [List.map_map]; exact List.map_id _
  have ha : Asc ((srtP L).map (·.1)) := by
    rw [hk]
    refine List.Pairwise.imp₂ (fun a b h1 h2 => Nat.lt_of_le_of_ne h1 h2) (srtN_pw _) (hp.nodup_iff.mpr h)
  refine ⟨?_, ha⟩
  have z : (L.map (·.1)).map (fun c => (c, (getG L c).getD 0)) = L := by
    rw [List.map_map]
    conv => rhs; rw [← List.map_id L]
    refine List.map_congr_left fun q hq => ?_
    show (q.1, (getG L q.1).getD 0) = q
    rw [getG_nodup h (show (q.1, q.2) ∈ L from hq)]; rfl
  have y := hp.symm.map fun c => (c, (getG L c).getD 0)
  rw [z] at y
  exact y
def chg (ps : Ptv) (c : Nat) (v : Rat) : Ptv := (ps.filter fun p => !decide (p.1 = c)) ++ [(c, v)]
theorem chg_nodup {ps : Ptv} (h : Pt ps) (c : Nat) (v : Rat) : ((chg ps c v).map (·.1)).Nodup := by
  unfold chg
  rw [List.map_append, List.nodup_append]
  refine ⟨List.Pairwise.sublist (List.Sublist.map _ List.filter_sublist) h.a.nodup, by simp, fun a ha b hb e => ?_⟩
  obtain ⟨p, hp, rfl⟩ := List.mem_map.mp ha
  simp at hb
  have := (List.mem_filter.mp hp).2
  simp [hb, e] at this
theorem put_perm {ps : Ptv} (h : Pt ps) (c : Nat) (v : Rat) : (putG ps c v).Perm (chg ps c v) := by
  by_cases z : c ∈ ps.map (·.1)
  · have ep : putG ps c v = ps.map fun kv => if kv.1 = c then (kv.1, v) else kv := by unfold putG; rw [if_pos (any_key.mpr z)]
    have ek : (putG ps c v).map (·.1) = ps.map (·.1) := by
      rw [ep, List.map_map]
      refine List.map_congr_left fun p _ => ?_
      show (if p.1 = c then (p.1, v) else p).1 = p.1
      split <;> rfl
    have nd : ∀ l : Ptv, (l.map (·.1)).Nodup → l.Nodup := fun l hl => List.Pairwise.of_map Prod.fst (fun a b hab he => hab (congrArg Prod.fst he)) hl
    refine (List.perm_ext_iff_of_nodup (nd _ (by rw [ek]; exact h.a.nodup)) (nd _ (chg_nodup h c v))).mpr fun q => ?_
    rw [ep]
    unfold chg
    rw [List.mem_map, List.mem_append, List.mem_filter, List.mem_singleton]
    constructor
    · rintro ⟨p, hp, rfl⟩
      by_cases e : p.1 = c
      · rw [if_pos e, e]; exact .inr rfl
      · rw [if_neg e]; exact .inl ⟨hp, by simp [e]⟩
    · rintro (⟨hq, hn⟩ | rfl)
      · have hn : ¬ q.1 = c := by simpa using hn
        exact ⟨q, hq, if_neg hn⟩
      · obtain ⟨p, hp, e⟩ := List.mem_map.mp z
        exact ⟨p, hp, by rw [if_pos e, e]⟩
  · rw [putG_new v z]
    unfold chg
    rw [List.filter_eq_self.mpr fun p hp => by
      have : p.1 ≠ c := fun e => z (e ▸ List.mem_map.mpr ⟨p, hp, rfl⟩)
      simp [this]]
theorem getG_perm {ps qs : Ptv} (h : (ps.map (·.1)).Nodup) (p : ps.Perm qs) (c : Nat) : getG ps c = getG qs c := by
  have hq : (qs.map (·.1)).Nodup := ((p.map (·.1)).nodup_iff).mp h
  by_cases z : c ∈ ps.map (·.1)
  · obtain ⟨v, e⟩ := getG_some z
    rw [e, getG_nodup hq (p.mem_iff.mp (getG_mem e))]
  · rw [getG_none.mpr z, getG_none.mpr fun y => z ((p.map (·.1)).mem_iff.mpr y)]
theorem chg_eq {ps qs : Ptv} (h : Pt ps) (hq : Pt qs) {c : Nat} {v : Rat} (p : (chg ps c v).Perm qs) : eqP qs ps = decide (getG ps c = some v) := by
  by_cases z : getG ps c = some v
  · rw [decide_eq_true z]
    have nd : ∀ l : Ptv, (l.map (·.1)).Nodup → l.Nodup := fun l hl => List.Pairwise.of_map Prod.fst (fun a b hab he => hab (congrArg Prod.fst he)) hl
    have y : (chg ps c v).Perm ps := by
      refine (List.perm_ext_iff_of_nodup (nd _ (chg_nodup h c v)) (nd _ h.a.nodup)).mpr fun q => ?_
      unfold chg
      rw [List.mem_append, List.mem_filter, List.mem_singleton]
      constructor
      · rintro (⟨hq, _⟩ | rfl)
        · exact hq
        · exact getG_mem z
      · intro hq
        by_cases e : q.1 = c
        · refine .inr ?_
          have k := getG_nodup h.a.nodup (show (q.1, q.2) ∈ ps from hq)
          rw [e, z] at k
          obtain ⟨a, b⟩ := q
          cases k; cases e; rfl
        · exact .inl ⟨hq, by simp [e]⟩
    have e1 := srtP_asc h.a y
    have e2 := srtP_asc hq.a p
    rw [e1] at e2
    subst e2
    exact eqP_self h
  · rw [decide_eq_false z]
    unfold eqP
    rw [Bool.and_eq_false_iff]
    refine .inr (Bool.eq_false_iff.mpr fun w => ?_)
    have m : (c, v) ∈ qs := p.mem_iff.mp (by unfold chg; simp)
    exact z (of_decide_eq_true (List.all_eq_true.mp w (c, v) m))
theorem insT_old : ∀ (fs : List Nat) (l : List Str), (∀ c ∈ fs, ch c ∈ l) → (fs.map ch).foldl insT l = l
  | [], l, _ => rfl
  | c :: fs, l, h => by
    rw [List.map_cons, List.foldl_cons, show insT l (ch c) = l from if_pos (h c (by simp)), insT_old fs l fun d hd => h d (by simp [hd])]
theorem set_rev {cs fs : List Nat} (h : Asc cs) (hf : ∀ c ∈ fs, c ∈ cs) : srt ((signs (txt (cs.reverse ++ fs))).foldl insT []) = cs.map ch := by
  have nd : cs.reverse.Nodup := (List.reverse_perm cs).nodup_iff.mpr h.nodup
  have e := insT_new cs.reverse [] (by simpa using nd)
  rw [signs_txt, List.map_append, List.foldl_append, show ([] : List Str) = ([] : List Nat).reverse.map ch from rfl, e, insT_old fs _ (fun c hc => List.mem_map.mpr ⟨c, by simpa using hf c hc, rfl⟩), srt_ch]
  congr 1
  exact srt_perm_asc h (by simp)
theorem txt_app (a b : List Nat) : txt a ++ txt b = txt (a ++ b) := by
  show (⟨a.toArray ++ b.toArray⟩ : Str) = ⟨(a ++ b).toArray⟩
  simp
theorem rev_txt (cs : List Nat) : (⟨(txt cs).cps.toList.reverse.toArray⟩ : Str) = txt cs.reverse := by
  show (⟨cs.toArray.toList.reverse.toArray⟩ : Str) = _
  simp [txt]
def half : Rat := Rat.divInt 1 2
def thr : Rat := ((3 : Int) : Rat)
def edg : Ptv := [(110, thr), (112, half)]
theorem str_p : Str.ofString "p" = ch 112 := by decide +kernel
theorem str_n : Str.ofString "n" = ch 110 := by decide +kernel
theorem str_q : Str.ofString "q" = ch 113 := by decide +kernel
theorem noR_e (b : U) (hb : BoxOk b) : noRs 4 [.tbl "law", b, .lst [.str (ch 112), .tup [.int 1, .int 2]], .lst [.ref 2, .tup [.str (ch 110), .int 3]]] = true := by simp [noRs, noR, noR_box hb]
end Br

namespace Br
open Mi PySem
theorem q_half : qU half = .tup [.int 1, .int 2] := by
  have h1 : half.num = 1 := by decide +kernel
  have h2 : half.den = 2 := by decide +kernel
  unfold qU; rw [h1, h2]; rfl
theorem q_thr : qU thr = .tup [.int 3, .int 1] := rfl
theorem pt_edg : Ps edg := by
  refine ⟨⟨by unfold Asc; decide, fun p hp => ?_, fun p hp => ?_, by decide⟩, fun p hp => ?_⟩ <;> simp only [edg, List.mem_cons, List.not_mem_nil, or_false] at hp <;> rcases hp with rfl | rfl
  · exact ⟨by decide, by decide⟩
  · exact ⟨by decide, by decide⟩
  · exact Sz.mono (m := 31) ⟨by decide +kernel, by decide +kernel⟩ (by decide)
  · exact Sz.mono (m := 31) ⟨by decide +kernel, by decide +kernel⟩ (by decide)
  · exact ⟨by decide +kernel, by decide +kernel⟩
  · exact ⟨by decide +kernel, by decide +kernel⟩
theorem pt_nil : Ps [] := ⟨⟨by unfold Asc; decide, by simp, by simp, by decide⟩, by simp⟩
theorem da_pair {p : Nat × Rat} (h : Lc p.1) : Da 5 (pairU' p) := da_t (by simp) (by simp [da_q, da_s (ch_ok h)])
theorem da_pairs {ps : Ptv} (h : Pt ps) : Da 6 (.lst (ps.map pairU')) := da_l (by rw [List.length_map]; have := h.l; omega) (fun u hu => by
  obtain ⟨p, hp, rfl⟩ := List.mem_map.mp hu
  exact da_pair (h.c p hp))
theorem lk_ne (m : Str) (x : U) (h : (m == Str.ofString "numbers") = false) : (List.lookup m [(Str.ofString "numbers", x)]).isNone = true := by
  simp [List.lookup, h]
theorem lk_pairs (x : U) : (List.lookup (Str.ofString "pairs") [(Str.ofString "numbers", x)]).isNone = true := lk_ne _ x (by decide +kernel)
theorem lk_part (x : U) : (List.lookup (Str.ofString "part") [(Str.ofString "numbers", x)]).isNone = true := lk_ne _ x (by decide +kernel)
theorem lk_wv (x : U) : (List.lookup (Str.ofString "with_value") [(Str.ofString "numbers", x)]).isNone = true := lk_ne _ x (by decide +kernel)
abbrev L1 (x : U) : U := .lst [.str (ch 112), x]
end Br

namespace Br
open Mi PySem
theorem ok_app {a b : Str} (ha : strOk a) (hb : strOk b) : strOk (a ++ b) := by
  unfold strOk PyData.strOk at *
  show (a.cps ++ b.cps).all _ = true
  rw [Array.all_append, ha, hb]; rfl
theorem ok_of (s : String) : strOk (Str.ofString s) := by
  unfold strOk PyData.strOk
  rw [Str.ofString_eq_toList]
  simp only [List.all_toArray, List.all_eq_true, decide_eq_true_eq]
  intro c hc
  obtain ⟨d, _, rfl⟩ := List.mem_map.mp hc
  have := d.valid
  show d.val.toNat < _
  rcases this with h | h
  · have h : d.val.toNat < 0xd800 := h; omega
  · have h : 0xdfff < d.val.toNat ∧ d.val.toNat < 0x110000 := h; omega
theorem ok_join (a : Str) (ha : strOk a) : ∀ l : List Str, (∀ x ∈ l, strOk x) → strOk (Str.join a l)
  | [], _ => (by unfold strOk; decide +kernel : strOk Str.empty)
  | [x], h => h x (by simp)
  | x :: y :: r, h => ok_app (ok_app (h x (by simp)) ha) (ok_join a ha (y :: r) fun z hz => h z (by simp [hz]))
theorem ok_txt {cs : List Nat} (h : ∀ c ∈ cs, Lc c) : strOk (txt cs) := by
  unfold strOk PyData.strOk txt
  simp only [List.all_toArray, List.all_eq_true, decide_eq_true_eq]
  intro c hc
  have := (h c hc).2; omega
theorem ok_rtx (x : Rat) : strOk (rtx x) := by
  unfold rtx itx
  split
  · exact ok_of _
  · exact ok_app (ok_app (ok_of _) (ok_of _)) (ok_of _)
theorem ok_rtxP {ps : Ptv} (h : Pt ps) : strOk (rtxP ps) := by
  unfold rtxP ptx
  refine ok_app (ok_app (ok_of _) ?_) (ok_of _)
  split
  · exact ok_of _
  · show strOk (PySem.Builtin.Str.glued _ _)
    rw [StrLaws.glued_eq_join]
    refine ok_join _ (ok_of _) _ fun x hx => ?_
    obtain ⟨p, hp, rfl⟩ := List.mem_map.mp hx
    exact ok_app (ok_app (ch_ok (h.c p hp)) (ok_of _)) (ok_rtx _)
theorem da_pair4 {p : Nat × Rat} (h : Lc p.1) : Da 4 (pairU' p) := da_t (by simp) (by simp [da_q, da_s (ch_ok h)])
theorem da_pairs5 {ps : Ptv} (h : Pt ps) : Da 5 (.lst (ps.map pairU')) := da_l (by rw [List.length_map]; have := h.l; omega) (fun u hu => by
  obtain ⟨p, hp, rfl⟩ := List.mem_map.mp hu
  exact da_pair4 (h.c p hp))
theorem da_vals {ps : Ptv} (h : ps.length ≤ 8) : Da 6 (.lst (ps.map fun p => qU p.2)) := da_l (by rw [List.length_map]; omega) (fun u hu => by
  obtain ⟨p, hp, rfl⟩ := List.mem_map.mp hu
  exact da_q _)
end Br

namespace Br
open Mi Mx
/-! refusals -/
/-- an exception of the program's -/
def exU (c f : PySem.Str) (u : U) : U := .exc c [("code", .str c), (f, u)]
def ex0 (c : PySem.Str) : U := .exc c [("code", .str c)]
abbrev inN (u : U) : U := exU "InvalidNumber" "given" u
abbrev zdv : U := ex0 "ZeroDivisor"
def raiseR (c : PySem.Str) (fo : Option PySem.Str) (us : List U) : Sm := fun s => if us.length = fo.toList.length then .err (.exc c (excFs c fo us)) s else .stuck
@[simp] theorem raiseM_s (c : PySem.Str) (fo : Option PySem.Str) (ms : M (List U)) (s : MS) : raiseM c fo ms s = bindR (ms s) (raiseR c fo) := (rfl)
@[simp] theorem raiseR_0 (c : PySem.Str) (s : MS) : raiseR c none [] s = .err (.exc c [("code", .str c)]) s := (rfl)
@[simp] theorem raiseR_1 (c f : PySem.Str) (u : U) (s : MS) : raiseR c (some f) [u] s = .err (.exc c [("code", .str c), (f, u)]) s := (rfl)
theorem r_checked (n d : Int) (st : List U) (h : d < 1) : m_checked [.tup [.int n, .int d]] st = .err (inN (.tup [.int n, .int d])) st := by
  simp [m_checked, b_checked, ktL, isi_tup_int, h, exU]
theorem r_ratio (t : Int) (st : List U) : m_ratio [.int t, .int 0] st = .err zdv st := by
  simp [m_ratio, b_ratio, eqU_int, ex0]
/-- a number with a bad bottom -/
def bdU (n d : Int) : U := .tup [.int n, .int d]
theorem r_chk {n d : Int} (h : d < 1) (st : List U) : m_checked [bdU n d] st = .err (inN (bdU n d)) st := r_checked n d st h
section
variable {n d : Int} (hd : d < 1) (st : List U)
include hd
theorem r_ratio_text : m_ratio_text [bdU n d] st = .err (inN (bdU n d)) st := by simp [m_ratio_text, b_ratio_text, r_chk hd]
variable {x : Nm} (hx : x.Good)
include hx
end
/-! told -/
theorem getX_s (xl : PySem.Str → PySem.Str → Bool) (f c : PySem.Str) (fs : List (PySem.Str × U)) : getX xl f (.exc c fs) = when (xl c f) (ofO (fs.lookup f)) := (rfl)
theorem lk1 {f : PySem.Str} {v u : U} (h : f ≠ PySem.Str.ofString "code" := by decide +kernel) : List.lookup f [(PySem.Str.ofString "code", v), (f, u)] = some u := by
  have e : (f == PySem.Str.ofString "code") = false := by rw [beq_eq_false_iff_ne]; exact h
  simp [List.lookup, e]
theorem noTb_box {b : U} (h : BoxOk b) : isTb b = false := by obtain ⟨_, _, _, _, rfl, _⟩ := h; rfl
theorem tb_box {b : U} (h : BoxOk b) : hasTb "law" [.tbl "law", b] = true := by
  unfold hasTb
  simp [noTb_box h]
theorem told_ok {gF : F} {m : M U} {e : List Sl} {st : List U} {u : U} {s' : MS} (h : m ⟨e, st⟩ = .ok u s') (ht : hasTb "law" st = true) : toldM gF okcL "law" m ⟨e, st⟩ = .ok (.tup [.str "told", u]) s' := by
  unfold toldM
  rw [if_pos ht, h]
def fl0 : List U := [.str (PySem.Str.ofString "InvalidNumber"), .str (PySem.Str.ofString "InvalidCell"), .str (PySem.Str.ofString "InvalidCells"), .str (PySem.Str.ofString "InvalidStanding"), .str (PySem.Str.ofString "InvalidSigns"), .str (PySem.Str.ofString "InvalidShare"), .str (PySem.Str.ofString "InvalidKept"), .str (PySem.Str.ofString "InvalidAge"), .str (PySem.Str.ofString "InvalidLimit")]
def fl1 : List U := [.str (PySem.Str.ofString "DuplicateCell"), .str (PySem.Str.ofString "InvalidBounds"), .str (PySem.Str.ofString "NotBounded"), .str (PySem.Str.ofString "NotOpen"), .str (PySem.Str.ofString "OutOfBounds"), .str (PySem.Str.ofString "NotPositive"), .str (PySem.Str.ofString "UnknownCell")]
def fl2 : List U := [.str (PySem.Str.ofString "InvalidWeight"), .str (PySem.Str.ofString "InvalidFloor"), .str (PySem.Str.ofString "InvalidBrim"), .str (PySem.Str.ofString "InvalidConstant"), .str (PySem.Str.ofString "InvalidWidth"), .str (PySem.Str.ofString "InvalidAction"), .str (PySem.Str.ofString "InvalidCommand")]
def fl3 : List U := [.str (PySem.Str.ofString "InvalidName"), .str (PySem.Str.ofString "DuplicateName"), .str (PySem.Str.ofString "WrongKind"), .str (PySem.Str.ofString "UnknownName")]
def fl4 : List U := [.str (PySem.Str.ofString "TooMany"), .str (PySem.Str.ofString "TooFew"), .str (PySem.Str.ofString "CapacityExceeded")]
theorem fl_in {c : PySem.Str} {us : List U} {b : Bool} (h : (match flatU (.str c), flatsU us with | some v, some vs => some (L2.inV v vs) | _, _ => none) = some b) (s : MS) : inU false (.str c) (.tup us) s = .ok (U.bl b) s := by
  show (match flatU (.str c), flatsU us with | some v, some vs => ret (U.bl (xor false (L2.inV v vs))) | _, _ => stk) s = _
  revert h
  cases flatU (.str c) <;> cases flatsU us <;> intro h
  · cases h
  · cases h
  · cases h
  · cases h
    show (ret (U.bl (xor false (L2.inV _ _))) : M U) s = _
    rw [Bool.false_xor]; rfl
theorem fd_InvalidNumber (u : U) (st : List U) : m__law_field [exU "InvalidNumber" "given" u] st = .ok (.tup [u]) st := by
  have i0 := fl_in (c := PySem.Str.ofString "InvalidNumber") (us := fl0) (b := true) (by decide +kernel)
  have x0 : xlL (PySem.Str.ofString "InvalidNumber") (PySem.Str.ofString "code") = true := by decide +kernel
  have x1 : xlL (PySem.Str.ofString "InvalidNumber") (PySem.Str.ofString "given") = true := by decide +kernel
  have l1 := fun (v u : U) => lk1 (f := PySem.Str.ofString "given") (v := v) (u := u)
  simp only [fl0] at i0
  simp [m__law_field, b__law_field, exU, getX_s, x0, x1, l1, i0]
theorem fd_ZeroDivisor (st : List U) : m__law_field [ex0 "ZeroDivisor"] st = .ok (.tup []) st := by
  have i0 := fl_in (c := PySem.Str.ofString "ZeroDivisor") (us := fl0) (b := false) (by decide +kernel)
  have i1 := fl_in (c := PySem.Str.ofString "ZeroDivisor") (us := fl1) (b := false) (by decide +kernel)
  have i2 := fl_in (c := PySem.Str.ofString "ZeroDivisor") (us := fl2) (b := false) (by decide +kernel)
  have i3 := fl_in (c := PySem.Str.ofString "ZeroDivisor") (us := fl3) (b := false) (by decide +kernel)
  have i4 := fl_in (c := PySem.Str.ofString "ZeroDivisor") (us := fl4) (b := false) (by decide +kernel)
  have x0 : xlL (PySem.Str.ofString "ZeroDivisor") (PySem.Str.ofString "code") = true := by decide +kernel
  simp only [fl0, fl1, fl2, fl3, fl4] at i0 i1 i2 i3 i4
  simp [m__law_field, b__law_field, ex0, getX_s, x0, i0, i1, i2, i3, i4]
theorem fd_InvalidCell (u : U) (st : List U) : m__law_field [exU "InvalidCell" "given" u] st = .ok (.tup [u]) st := by
  have i0 := fl_in (c := PySem.Str.ofString "InvalidCell") (us := fl0) (b := true) (by decide +kernel)
  have x0 : xlL (PySem.Str.ofString "InvalidCell") (PySem.Str.ofString "code") = true := by decide +kernel
  have x1 : xlL (PySem.Str.ofString "InvalidCell") (PySem.Str.ofString "given") = true := by decide +kernel
  have l1 := fun (v u : U) => lk1 (f := PySem.Str.ofString "given") (v := v) (u := u)
  simp only [fl0] at i0
  simp [m__law_field, b__law_field, exU, getX_s, x0, x1, l1, i0]
theorem fd_DuplicateCell (u : U) (st : List U) : m__law_field [exU "DuplicateCell" "cell" u] st = .ok (.tup [u]) st := by
  have i0 := fl_in (c := PySem.Str.ofString "DuplicateCell") (us := fl0) (b := false) (by decide +kernel)
  have i1 := fl_in (c := PySem.Str.ofString "DuplicateCell") (us := fl1) (b := true) (by decide +kernel)
  have x0 : xlL (PySem.Str.ofString "DuplicateCell") (PySem.Str.ofString "code") = true := by decide +kernel
  have x1 : xlL (PySem.Str.ofString "DuplicateCell") (PySem.Str.ofString "cell") = true := by decide +kernel
  have l1 := fun (v u : U) => lk1 (f := PySem.Str.ofString "cell") (v := v) (u := u)
  simp only [fl0, fl1] at i0 i1
  simp [m__law_field, b__law_field, exU, getX_s, x0, x1, l1, i0, i1]
theorem fd_OtherCells (st : List U) : m__law_field [ex0 "OtherCells"] st = .ok (.tup []) st := by
  have i0 := fl_in (c := PySem.Str.ofString "OtherCells") (us := fl0) (b := false) (by decide +kernel)
  have i1 := fl_in (c := PySem.Str.ofString "OtherCells") (us := fl1) (b := false) (by decide +kernel)
  have i2 := fl_in (c := PySem.Str.ofString "OtherCells") (us := fl2) (b := false) (by decide +kernel)
  have i3 := fl_in (c := PySem.Str.ofString "OtherCells") (us := fl3) (b := false) (by decide +kernel)
  have i4 := fl_in (c := PySem.Str.ofString "OtherCells") (us := fl4) (b := false) (by decide +kernel)
  have x0 : xlL (PySem.Str.ofString "OtherCells") (PySem.Str.ofString "code") = true := by decide +kernel
  simp only [fl0, fl1, fl2, fl3, fl4] at i0 i1 i2 i3 i4
  simp [m__law_field, b__law_field, ex0, getX_s, x0, i0, i1, i2, i3, i4]
theorem fd_InvalidCells (u : U) (st : List U) : m__law_field [exU "InvalidCells" "given" u] st = .ok (.tup [u]) st := by
  have i0 := fl_in (c := PySem.Str.ofString "InvalidCells") (us := fl0) (b := true) (by decide +kernel)
  have x0 : xlL (PySem.Str.ofString "InvalidCells") (PySem.Str.ofString "code") = true := by decide +kernel
  have x1 : xlL (PySem.Str.ofString "InvalidCells") (PySem.Str.ofString "given") = true := by decide +kernel
  have l1 := fun (v u : U) => lk1 (f := PySem.Str.ofString "given") (v := v) (u := u)
  simp only [fl0] at i0
  simp [m__law_field, b__law_field, exU, getX_s, x0, x1, l1, i0]
theorem fd_InvalidWeight (u : U) (st : List U) : m__law_field [exU "InvalidWeight" "at" u] st = .ok (.tup [u]) st := by
  have i0 := fl_in (c := PySem.Str.ofString "InvalidWeight") (us := fl0) (b := false) (by decide +kernel)
  have i1 := fl_in (c := PySem.Str.ofString "InvalidWeight") (us := fl1) (b := false) (by decide +kernel)
  have i2 := fl_in (c := PySem.Str.ofString "InvalidWeight") (us := fl2) (b := true) (by decide +kernel)
  have x0 : xlL (PySem.Str.ofString "InvalidWeight") (PySem.Str.ofString "code") = true := by decide +kernel
  have x1 : xlL (PySem.Str.ofString "InvalidWeight") (PySem.Str.ofString "at") = true := by decide +kernel
  have l1 := fun (v u : U) => lk1 (f := PySem.Str.ofString "at") (v := v) (u := u)
  simp only [fl0, fl1, fl2] at i0 i1 i2
  simp [m__law_field, b__law_field, exU, getX_s, x0, x1, l1, i0, i1, i2]
theorem fd_InvalidFloor (u : U) (st : List U) : m__law_field [exU "InvalidFloor" "at" u] st = .ok (.tup [u]) st := by
  have i0 := fl_in (c := PySem.Str.ofString "InvalidFloor") (us := fl0) (b := false) (by decide +kernel)
  have i1 := fl_in (c := PySem.Str.ofString "InvalidFloor") (us := fl1) (b := false) (by decide +kernel)
  have i2 := fl_in (c := PySem.Str.ofString "InvalidFloor") (us := fl2) (b := true) (by decide +kernel)
  have x0 : xlL (PySem.Str.ofString "InvalidFloor") (PySem.Str.ofString "code") = true := by decide +kernel
  have x1 : xlL (PySem.Str.ofString "InvalidFloor") (PySem.Str.ofString "at") = true := by decide +kernel
  have l1 := fun (v u : U) => lk1 (f := PySem.Str.ofString "at") (v := v) (u := u)
  simp only [fl0, fl1, fl2] at i0 i1 i2
  simp [m__law_field, b__law_field, exU, getX_s, x0, x1, l1, i0, i1, i2]
theorem fd_InvalidBrim (u : U) (st : List U) : m__law_field [exU "InvalidBrim" "at" u] st = .ok (.tup [u]) st := by
  have i0 := fl_in (c := PySem.Str.ofString "InvalidBrim") (us := fl0) (b := false) (by decide +kernel)
  have i1 := fl_in (c := PySem.Str.ofString "InvalidBrim") (us := fl1) (b := false) (by decide +kernel)
  have i2 := fl_in (c := PySem.Str.ofString "InvalidBrim") (us := fl2) (b := true) (by decide +kernel)
  have x0 : xlL (PySem.Str.ofString "InvalidBrim") (PySem.Str.ofString "code") = true := by decide +kernel
  have x1 : xlL (PySem.Str.ofString "InvalidBrim") (PySem.Str.ofString "at") = true := by decide +kernel
  have l1 := fun (v u : U) => lk1 (f := PySem.Str.ofString "at") (v := v) (u := u)
  simp only [fl0, fl1, fl2] at i0 i1 i2
  simp [m__law_field, b__law_field, exU, getX_s, x0, x1, l1, i0, i1, i2]
theorem fd_InvalidConstant (u : U) (st : List U) : m__law_field [exU "InvalidConstant" "at" u] st = .ok (.tup [u]) st := by
  have i0 := fl_in (c := PySem.Str.ofString "InvalidConstant") (us := fl0) (b := false) (by decide +kernel)
  have i1 := fl_in (c := PySem.Str.ofString "InvalidConstant") (us := fl1) (b := false) (by decide +kernel)
  have i2 := fl_in (c := PySem.Str.ofString "InvalidConstant") (us := fl2) (b := true) (by decide +kernel)
  have x0 : xlL (PySem.Str.ofString "InvalidConstant") (PySem.Str.ofString "code") = true := by decide +kernel
  have x1 : xlL (PySem.Str.ofString "InvalidConstant") (PySem.Str.ofString "at") = true := by decide +kernel
  have l1 := fun (v u : U) => lk1 (f := PySem.Str.ofString "at") (v := v) (u := u)
  simp only [fl0, fl1, fl2] at i0 i1 i2
  simp [m__law_field, b__law_field, exU, getX_s, x0, x1, l1, i0, i1, i2]
theorem fd_InvalidBounds (u : U) (st : List U) : m__law_field [exU "InvalidBounds" "cell" u] st = .ok (.tup [u]) st := by
  have i0 := fl_in (c := PySem.Str.ofString "InvalidBounds") (us := fl0) (b := false) (by decide +kernel)
  have i1 := fl_in (c := PySem.Str.ofString "InvalidBounds") (us := fl1) (b := true) (by decide +kernel)
  have x0 : xlL (PySem.Str.ofString "InvalidBounds") (PySem.Str.ofString "code") = true := by decide +kernel
  have x1 : xlL (PySem.Str.ofString "InvalidBounds") (PySem.Str.ofString "cell") = true := by decide +kernel
  have l1 := fun (v u : U) => lk1 (f := PySem.Str.ofString "cell") (v := v) (u := u)
  simp only [fl0, fl1] at i0 i1
  simp [m__law_field, b__law_field, exU, getX_s, x0, x1, l1, i0, i1]
theorem fd_TooMany (u : U) (st : List U) : m__law_field [exU "TooMany" "bound" u] st = .ok (.tup [u]) st := by
  have i0 := fl_in (c := PySem.Str.ofString "TooMany") (us := fl0) (b := false) (by decide +kernel)
  have i1 := fl_in (c := PySem.Str.ofString "TooMany") (us := fl1) (b := false) (by decide +kernel)
  have i2 := fl_in (c := PySem.Str.ofString "TooMany") (us := fl2) (b := false) (by decide +kernel)
  have i3 := fl_in (c := PySem.Str.ofString "TooMany") (us := fl3) (b := false) (by decide +kernel)
  have i4 := fl_in (c := PySem.Str.ofString "TooMany") (us := fl4) (b := true) (by decide +kernel)
  have x0 : xlL (PySem.Str.ofString "TooMany") (PySem.Str.ofString "code") = true := by decide +kernel
  have x1 : xlL (PySem.Str.ofString "TooMany") (PySem.Str.ofString "bound") = true := by decide +kernel
  have l1 := fun (v u : U) => lk1 (f := PySem.Str.ofString "bound") (v := v) (u := u)
  simp only [fl0, fl1, fl2, fl3, fl4] at i0 i1 i2 i3 i4
  simp [m__law_field, b__law_field, exU, getX_s, x0, x1, l1, i0, i1, i2, i3, i4]
theorem fd_TooFew (u : U) (st : List U) : m__law_field [exU "TooFew" "bound" u] st = .ok (.tup [u]) st := by
  have i0 := fl_in (c := PySem.Str.ofString "TooFew") (us := fl0) (b := false) (by decide +kernel)
  have i1 := fl_in (c := PySem.Str.ofString "TooFew") (us := fl1) (b := false) (by decide +kernel)
  have i2 := fl_in (c := PySem.Str.ofString "TooFew") (us := fl2) (b := false) (by decide +kernel)
  have i3 := fl_in (c := PySem.Str.ofString "TooFew") (us := fl3) (b := false) (by decide +kernel)
  have i4 := fl_in (c := PySem.Str.ofString "TooFew") (us := fl4) (b := true) (by decide +kernel)
  have x0 : xlL (PySem.Str.ofString "TooFew") (PySem.Str.ofString "code") = true := by decide +kernel
  have x1 : xlL (PySem.Str.ofString "TooFew") (PySem.Str.ofString "bound") = true := by decide +kernel
  have l1 := fun (v u : U) => lk1 (f := PySem.Str.ofString "bound") (v := v) (u := u)
  simp only [fl0, fl1, fl2, fl3, fl4] at i0 i1 i2 i3 i4
  simp [m__law_field, b__law_field, exU, getX_s, x0, x1, l1, i0, i1, i2, i3, i4]
theorem fd_NotBounded (u : U) (st : List U) : m__law_field [exU "NotBounded" "cell" u] st = .ok (.tup [u]) st := by
  have i0 := fl_in (c := PySem.Str.ofString "NotBounded") (us := fl0) (b := false) (by decide +kernel)
  have i1 := fl_in (c := PySem.Str.ofString "NotBounded") (us := fl1) (b := true) (by decide +kernel)
  have x0 : xlL (PySem.Str.ofString "NotBounded") (PySem.Str.ofString "code") = true := by decide +kernel
  have x1 : xlL (PySem.Str.ofString "NotBounded") (PySem.Str.ofString "cell") = true := by decide +kernel
  have l1 := fun (v u : U) => lk1 (f := PySem.Str.ofString "cell") (v := v) (u := u)
  simp only [fl0, fl1] at i0 i1
  simp [m__law_field, b__law_field, exU, getX_s, x0, x1, l1, i0, i1]
theorem fd_NotOpen (u : U) (st : List U) : m__law_field [exU "NotOpen" "cell" u] st = .ok (.tup [u]) st := by
  have i0 := fl_in (c := PySem.Str.ofString "NotOpen") (us := fl0) (b := false) (by decide +kernel)
  have i1 := fl_in (c := PySem.Str.ofString "NotOpen") (us := fl1) (b := true) (by decide +kernel)
  have x0 : xlL (PySem.Str.ofString "NotOpen") (PySem.Str.ofString "code") = true := by decide +kernel
  have x1 : xlL (PySem.Str.ofString "NotOpen") (PySem.Str.ofString "cell") = true := by decide +kernel
  have l1 := fun (v u : U) => lk1 (f := PySem.Str.ofString "cell") (v := v) (u := u)
  simp only [fl0, fl1] at i0 i1
  simp [m__law_field, b__law_field, exU, getX_s, x0, x1, l1, i0, i1]
theorem fd_OutOfBounds (u : U) (st : List U) : m__law_field [exU "OutOfBounds" "cell" u] st = .ok (.tup [u]) st := by
  have i0 := fl_in (c := PySem.Str.ofString "OutOfBounds") (us := fl0) (b := false) (by decide +kernel)
  have i1 := fl_in (c := PySem.Str.ofString "OutOfBounds") (us := fl1) (b := true) (by decide +kernel)
  have x0 : xlL (PySem.Str.ofString "OutOfBounds") (PySem.Str.ofString "code") = true := by decide +kernel
  have x1 : xlL (PySem.Str.ofString "OutOfBounds") (PySem.Str.ofString "cell") = true := by decide +kernel
  have l1 := fun (v u : U) => lk1 (f := PySem.Str.ofString "cell") (v := v) (u := u)
  simp only [fl0, fl1] at i0 i1
  simp [m__law_field, b__law_field, exU, getX_s, x0, x1, l1, i0, i1]
theorem fd_InvalidStanding (u : U) (st : List U) : m__law_field [exU "InvalidStanding" "given" u] st = .ok (.tup [u]) st := by
  have i0 := fl_in (c := PySem.Str.ofString "InvalidStanding") (us := fl0) (b := true) (by decide +kernel)
  have x0 : xlL (PySem.Str.ofString "InvalidStanding") (PySem.Str.ofString "code") = true := by decide +kernel
  have x1 : xlL (PySem.Str.ofString "InvalidStanding") (PySem.Str.ofString "given") = true := by decide +kernel
  have l1 := fun (v u : U) => lk1 (f := PySem.Str.ofString "given") (v := v) (u := u)
  simp only [fl0] at i0
  simp [m__law_field, b__law_field, exU, getX_s, x0, x1, l1, i0]
theorem fd_Unsure (st : List U) : m__law_field [ex0 "Unsure"] st = .ok (.tup []) st := by
  have i0 := fl_in (c := PySem.Str.ofString "Unsure") (us := fl0) (b := false) (by decide +kernel)
  have i1 := fl_in (c := PySem.Str.ofString "Unsure") (us := fl1) (b := false) (by decide +kernel)
  have i2 := fl_in (c := PySem.Str.ofString "Unsure") (us := fl2) (b := false) (by decide +kernel)
  have i3 := fl_in (c := PySem.Str.ofString "Unsure") (us := fl3) (b := false) (by decide +kernel)
  have i4 := fl_in (c := PySem.Str.ofString "Unsure") (us := fl4) (b := false) (by decide +kernel)
  have x0 : xlL (PySem.Str.ofString "Unsure") (PySem.Str.ofString "code") = true := by decide +kernel
  simp only [fl0, fl1, fl2, fl3, fl4] at i0 i1 i2 i3 i4
  simp [m__law_field, b__law_field, ex0, getX_s, x0, i0, i1, i2, i3, i4]
theorem fd_NotTurned (st : List U) : m__law_field [ex0 "NotTurned"] st = .ok (.tup []) st := by
  have i0 := fl_in (c := PySem.Str.ofString "NotTurned") (us := fl0) (b := false) (by decide +kernel)
  have i1 := fl_in (c := PySem.Str.ofString "NotTurned") (us := fl1) (b := false) (by decide +kernel)
  have i2 := fl_in (c := PySem.Str.ofString "NotTurned") (us := fl2) (b := false) (by decide +kernel)
  have i3 := fl_in (c := PySem.Str.ofString "NotTurned") (us := fl3) (b := false) (by decide +kernel)
  have i4 := fl_in (c := PySem.Str.ofString "NotTurned") (us := fl4) (b := false) (by decide +kernel)
  have x0 : xlL (PySem.Str.ofString "NotTurned") (PySem.Str.ofString "code") = true := by decide +kernel
  simp only [fl0, fl1, fl2, fl3, fl4] at i0 i1 i2 i3 i4
  simp [m__law_field, b__law_field, ex0, getX_s, x0, i0, i1, i2, i3, i4]
theorem fd_InvalidWidth (u : U) (st : List U) : m__law_field [exU "InvalidWidth" "at" u] st = .ok (.tup [u]) st := by
  have i0 := fl_in (c := PySem.Str.ofString "InvalidWidth") (us := fl0) (b := false) (by decide +kernel)
  have i1 := fl_in (c := PySem.Str.ofString "InvalidWidth") (us := fl1) (b := false) (by decide +kernel)
  have i2 := fl_in (c := PySem.Str.ofString "InvalidWidth") (us := fl2) (b := true) (by decide +kernel)
  have x0 : xlL (PySem.Str.ofString "InvalidWidth") (PySem.Str.ofString "code") = true := by decide +kernel
  have x1 : xlL (PySem.Str.ofString "InvalidWidth") (PySem.Str.ofString "at") = true := by decide +kernel
  have l1 := fun (v u : U) => lk1 (f := PySem.Str.ofString "at") (v := v) (u := u)
  simp only [fl0, fl1, fl2] at i0 i1 i2
  simp [m__law_field, b__law_field, exU, getX_s, x0, x1, l1, i0, i1, i2]
theorem fd_InvalidSigns (u : U) (st : List U) : m__law_field [exU "InvalidSigns" "given" u] st = .ok (.tup [u]) st := by
  have i0 := fl_in (c := PySem.Str.ofString "InvalidSigns") (us := fl0) (b := true) (by decide +kernel)
  have x0 : xlL (PySem.Str.ofString "InvalidSigns") (PySem.Str.ofString "code") = true := by decide +kernel
  have x1 : xlL (PySem.Str.ofString "InvalidSigns") (PySem.Str.ofString "given") = true := by decide +kernel
  have l1 := fun (v u : U) => lk1 (f := PySem.Str.ofString "given") (v := v) (u := u)
  simp only [fl0] at i0
  simp [m__law_field, b__law_field, exU, getX_s, x0, x1, l1, i0]
theorem fd_InvalidShare (u : U) (st : List U) : m__law_field [exU "InvalidShare" "given" u] st = .ok (.tup [u]) st := by
  have i0 := fl_in (c := PySem.Str.ofString "InvalidShare") (us := fl0) (b := true) (by decide +kernel)
  have x0 : xlL (PySem.Str.ofString "InvalidShare") (PySem.Str.ofString "code") = true := by decide +kernel
  have x1 : xlL (PySem.Str.ofString "InvalidShare") (PySem.Str.ofString "given") = true := by decide +kernel
  have l1 := fun (v u : U) => lk1 (f := PySem.Str.ofString "given") (v := v) (u := u)
  simp only [fl0] at i0
  simp [m__law_field, b__law_field, exU, getX_s, x0, x1, l1, i0]
theorem fd_NotPositive (u : U) (st : List U) : m__law_field [exU "NotPositive" "cell" u] st = .ok (.tup [u]) st := by
  have i0 := fl_in (c := PySem.Str.ofString "NotPositive") (us := fl0) (b := false) (by decide +kernel)
  have i1 := fl_in (c := PySem.Str.ofString "NotPositive") (us := fl1) (b := true) (by decide +kernel)
  have x0 : xlL (PySem.Str.ofString "NotPositive") (PySem.Str.ofString "code") = true := by decide +kernel
  have x1 : xlL (PySem.Str.ofString "NotPositive") (PySem.Str.ofString "cell") = true := by decide +kernel
  have l1 := fun (v u : U) => lk1 (f := PySem.Str.ofString "cell") (v := v) (u := u)
  simp only [fl0, fl1] at i0 i1
  simp [m__law_field, b__law_field, exU, getX_s, x0, x1, l1, i0, i1]
theorem fd_Calm (st : List U) : m__law_field [ex0 "Calm"] st = .ok (.tup []) st := by
  have i0 := fl_in (c := PySem.Str.ofString "Calm") (us := fl0) (b := false) (by decide +kernel)
  have i1 := fl_in (c := PySem.Str.ofString "Calm") (us := fl1) (b := false) (by decide +kernel)
  have i2 := fl_in (c := PySem.Str.ofString "Calm") (us := fl2) (b := false) (by decide +kernel)
  have i3 := fl_in (c := PySem.Str.ofString "Calm") (us := fl3) (b := false) (by decide +kernel)
  have i4 := fl_in (c := PySem.Str.ofString "Calm") (us := fl4) (b := false) (by decide +kernel)
  have x0 : xlL (PySem.Str.ofString "Calm") (PySem.Str.ofString "code") = true := by decide +kernel
  simp only [fl0, fl1, fl2, fl3, fl4] at i0 i1 i2 i3 i4
  simp [m__law_field, b__law_field, ex0, getX_s, x0, i0, i1, i2, i3, i4]
theorem fd_InvalidKept (u : U) (st : List U) : m__law_field [exU "InvalidKept" "given" u] st = .ok (.tup [u]) st := by
  have i0 := fl_in (c := PySem.Str.ofString "InvalidKept") (us := fl0) (b := true) (by decide +kernel)
  have x0 : xlL (PySem.Str.ofString "InvalidKept") (PySem.Str.ofString "code") = true := by decide +kernel
  have x1 : xlL (PySem.Str.ofString "InvalidKept") (PySem.Str.ofString "given") = true := by decide +kernel
  have l1 := fun (v u : U) => lk1 (f := PySem.Str.ofString "given") (v := v) (u := u)
  simp only [fl0] at i0
  simp [m__law_field, b__law_field, exU, getX_s, x0, x1, l1, i0]
theorem fd_InvalidAge (u : U) (st : List U) : m__law_field [exU "InvalidAge" "given" u] st = .ok (.tup [u]) st := by
  have i0 := fl_in (c := PySem.Str.ofString "InvalidAge") (us := fl0) (b := true) (by decide +kernel)
  have x0 : xlL (PySem.Str.ofString "InvalidAge") (PySem.Str.ofString "code") = true := by decide +kernel
  have x1 : xlL (PySem.Str.ofString "InvalidAge") (PySem.Str.ofString "given") = true := by decide +kernel
  have l1 := fun (v u : U) => lk1 (f := PySem.Str.ofString "given") (v := v) (u := u)
  simp only [fl0] at i0
  simp [m__law_field, b__law_field, exU, getX_s, x0, x1, l1, i0]
theorem fd_Singular (st : List U) : m__law_field [ex0 "Singular"] st = .ok (.tup []) st := by
  have i0 := fl_in (c := PySem.Str.ofString "Singular") (us := fl0) (b := false) (by decide +kernel)
  have i1 := fl_in (c := PySem.Str.ofString "Singular") (us := fl1) (b := false) (by decide +kernel)
  have i2 := fl_in (c := PySem.Str.ofString "Singular") (us := fl2) (b := false) (by decide +kernel)
  have i3 := fl_in (c := PySem.Str.ofString "Singular") (us := fl3) (b := false) (by decide +kernel)
  have i4 := fl_in (c := PySem.Str.ofString "Singular") (us := fl4) (b := false) (by decide +kernel)
  have x0 : xlL (PySem.Str.ofString "Singular") (PySem.Str.ofString "code") = true := by decide +kernel
  simp only [fl0, fl1, fl2, fl3, fl4] at i0 i1 i2 i3 i4
  simp [m__law_field, b__law_field, ex0, getX_s, x0, i0, i1, i2, i3, i4]
theorem fd_InvalidAction (u : U) (st : List U) : m__law_field [exU "InvalidAction" "at" u] st = .ok (.tup [u]) st := by
  have i0 := fl_in (c := PySem.Str.ofString "InvalidAction") (us := fl0) (b := false) (by decide +kernel)
  have i1 := fl_in (c := PySem.Str.ofString "InvalidAction") (us := fl1) (b := false) (by decide +kernel)
  have i2 := fl_in (c := PySem.Str.ofString "InvalidAction") (us := fl2) (b := true) (by decide +kernel)
  have x0 : xlL (PySem.Str.ofString "InvalidAction") (PySem.Str.ofString "code") = true := by decide +kernel
  have x1 : xlL (PySem.Str.ofString "InvalidAction") (PySem.Str.ofString "at") = true := by decide +kernel
  have l1 := fun (v u : U) => lk1 (f := PySem.Str.ofString "at") (v := v) (u := u)
  simp only [fl0, fl1, fl2] at i0 i1 i2
  simp [m__law_field, b__law_field, exU, getX_s, x0, x1, l1, i0, i1, i2]
theorem fd_InvalidName (u : U) (st : List U) : m__law_field [exU "InvalidName" "name" u] st = .ok (.tup [u]) st := by
  have i0 := fl_in (c := PySem.Str.ofString "InvalidName") (us := fl0) (b := false) (by decide +kernel)
  have i1 := fl_in (c := PySem.Str.ofString "InvalidName") (us := fl1) (b := false) (by decide +kernel)
  have i2 := fl_in (c := PySem.Str.ofString "InvalidName") (us := fl2) (b := false) (by decide +kernel)
  have i3 := fl_in (c := PySem.Str.ofString "InvalidName") (us := fl3) (b := true) (by decide +kernel)
  have x0 : xlL (PySem.Str.ofString "InvalidName") (PySem.Str.ofString "code") = true := by decide +kernel
  have x1 : xlL (PySem.Str.ofString "InvalidName") (PySem.Str.ofString "name") = true := by decide +kernel
  have l1 := fun (v u : U) => lk1 (f := PySem.Str.ofString "name") (v := v) (u := u)
  simp only [fl0, fl1, fl2, fl3] at i0 i1 i2 i3
  simp [m__law_field, b__law_field, exU, getX_s, x0, x1, l1, i0, i1, i2, i3]
theorem fd_DuplicateName (u : U) (st : List U) : m__law_field [exU "DuplicateName" "name" u] st = .ok (.tup [u]) st := by
  have i0 := fl_in (c := PySem.Str.ofString "DuplicateName") (us := fl0) (b := false) (by decide +kernel)
  have i1 := fl_in (c := PySem.Str.ofString "DuplicateName") (us := fl1) (b := false) (by decide +kernel)
  have i2 := fl_in (c := PySem.Str.ofString "DuplicateName") (us := fl2) (b := false) (by decide +kernel)
  have i3 := fl_in (c := PySem.Str.ofString "DuplicateName") (us := fl3) (b := true) (by decide +kernel)
  have x0 : xlL (PySem.Str.ofString "DuplicateName") (PySem.Str.ofString "code") = true := by decide +kernel
  have x1 : xlL (PySem.Str.ofString "DuplicateName") (PySem.Str.ofString "name") = true := by decide +kernel
  have l1 := fun (v u : U) => lk1 (f := PySem.Str.ofString "name") (v := v) (u := u)
  simp only [fl0, fl1, fl2, fl3] at i0 i1 i2 i3
  simp [m__law_field, b__law_field, exU, getX_s, x0, x1, l1, i0, i1, i2, i3]
theorem fd_WrongKind (u : U) (st : List U) : m__law_field [exU "WrongKind" "name" u] st = .ok (.tup [u]) st := by
  have i0 := fl_in (c := PySem.Str.ofString "WrongKind") (us := fl0) (b := false) (by decide +kernel)
  have i1 := fl_in (c := PySem.Str.ofString "WrongKind") (us := fl1) (b := false) (by decide +kernel)
  have i2 := fl_in (c := PySem.Str.ofString "WrongKind") (us := fl2) (b := false) (by decide +kernel)
  have i3 := fl_in (c := PySem.Str.ofString "WrongKind") (us := fl3) (b := true) (by decide +kernel)
  have x0 : xlL (PySem.Str.ofString "WrongKind") (PySem.Str.ofString "code") = true := by decide +kernel
  have x1 : xlL (PySem.Str.ofString "WrongKind") (PySem.Str.ofString "name") = true := by decide +kernel
  have l1 := fun (v u : U) => lk1 (f := PySem.Str.ofString "name") (v := v) (u := u)
  simp only [fl0, fl1, fl2, fl3] at i0 i1 i2 i3
  simp [m__law_field, b__law_field, exU, getX_s, x0, x1, l1, i0, i1, i2, i3]
theorem fd_CapacityExceeded (u : U) (st : List U) : m__law_field [exU "CapacityExceeded" "bound" u] st = .ok (.tup [u]) st := by
  have i0 := fl_in (c := PySem.Str.ofString "CapacityExceeded") (us := fl0) (b := false) (by decide +kernel)
  have i1 := fl_in (c := PySem.Str.ofString "CapacityExceeded") (us := fl1) (b := false) (by decide +kernel)
  have i2 := fl_in (c := PySem.Str.ofString "CapacityExceeded") (us := fl2) (b := false) (by decide +kernel)
  have i3 := fl_in (c := PySem.Str.ofString "CapacityExceeded") (us := fl3) (b := false) (by decide +kernel)
  have i4 := fl_in (c := PySem.Str.ofString "CapacityExceeded") (us := fl4) (b := true) (by decide +kernel)
  have x0 : xlL (PySem.Str.ofString "CapacityExceeded") (PySem.Str.ofString "code") = true := by decide +kernel
  have x1 : xlL (PySem.Str.ofString "CapacityExceeded") (PySem.Str.ofString "bound") = true := by decide +kernel
  have l1 := fun (v u : U) => lk1 (f := PySem.Str.ofString "bound") (v := v) (u := u)
  simp only [fl0, fl1, fl2, fl3, fl4] at i0 i1 i2 i3 i4
  simp [m__law_field, b__law_field, exU, getX_s, x0, x1, l1, i0, i1, i2, i3, i4]
theorem fd_InvalidLimit (u : U) (st : List U) : m__law_field [exU "InvalidLimit" "given" u] st = .ok (.tup [u]) st := by
  have i0 := fl_in (c := PySem.Str.ofString "InvalidLimit") (us := fl0) (b := true) (by decide +kernel)
  have x0 : xlL (PySem.Str.ofString "InvalidLimit") (PySem.Str.ofString "code") = true := by decide +kernel
  have x1 : xlL (PySem.Str.ofString "InvalidLimit") (PySem.Str.ofString "given") = true := by decide +kernel
  have l1 := fun (v u : U) => lk1 (f := PySem.Str.ofString "given") (v := v) (u := u)
  simp only [fl0] at i0
  simp [m__law_field, b__law_field, exU, getX_s, x0, x1, l1, i0]
theorem fd_InvalidCommand (u : U) (st : List U) : m__law_field [exU "InvalidCommand" "at" u] st = .ok (.tup [u]) st := by
  have i0 := fl_in (c := PySem.Str.ofString "InvalidCommand") (us := fl0) (b := false) (by decide +kernel)
  have i1 := fl_in (c := PySem.Str.ofString "InvalidCommand") (us := fl1) (b := false) (by decide +kernel)
  have i2 := fl_in (c := PySem.Str.ofString "InvalidCommand") (us := fl2) (b := true) (by decide +kernel)
  have x0 : xlL (PySem.Str.ofString "InvalidCommand") (PySem.Str.ofString "code") = true := by decide +kernel
  have x1 : xlL (PySem.Str.ofString "InvalidCommand") (PySem.Str.ofString "at") = true := by decide +kernel
  have l1 := fun (v u : U) => lk1 (f := PySem.Str.ofString "at") (v := v) (u := u)
  simp only [fl0, fl1, fl2] at i0 i1 i2
  simp [m__law_field, b__law_field, exU, getX_s, x0, x1, l1, i0, i1, i2]
theorem fd_ParseError (st : List U) : m__law_field [ex0 "ParseError"] st = .ok (.tup []) st := by
  have i0 := fl_in (c := PySem.Str.ofString "ParseError") (us := fl0) (b := false) (by decide +kernel)
  have i1 := fl_in (c := PySem.Str.ofString "ParseError") (us := fl1) (b := false) (by decide +kernel)
  have i2 := fl_in (c := PySem.Str.ofString "ParseError") (us := fl2) (b := false) (by decide +kernel)
  have i3 := fl_in (c := PySem.Str.ofString "ParseError") (us := fl3) (b := false) (by decide +kernel)
  have i4 := fl_in (c := PySem.Str.ofString "ParseError") (us := fl4) (b := false) (by decide +kernel)
  have x0 : xlL (PySem.Str.ofString "ParseError") (PySem.Str.ofString "code") = true := by decide +kernel
  simp only [fl0, fl1, fl2, fl3, fl4] at i0 i1 i2 i3 i4
  simp [m__law_field, b__law_field, ex0, getX_s, x0, i0, i1, i2, i3, i4]
theorem fd_UnknownCell (u : U) (st : List U) : m__law_field [exU "UnknownCell" "cell" u] st = .ok (.tup [u]) st := by
  have i0 := fl_in (c := PySem.Str.ofString "UnknownCell") (us := fl0) (b := false) (by decide +kernel)
  have i1 := fl_in (c := PySem.Str.ofString "UnknownCell") (us := fl1) (b := true) (by decide +kernel)
  have x0 : xlL (PySem.Str.ofString "UnknownCell") (PySem.Str.ofString "code") = true := by decide +kernel
  have x1 : xlL (PySem.Str.ofString "UnknownCell") (PySem.Str.ofString "cell") = true := by decide +kernel
  have l1 := fun (v u : U) => lk1 (f := PySem.Str.ofString "cell") (v := v) (u := u)
  simp only [fl0, fl1] at i0 i1
  simp [m__law_field, b__law_field, exU, getX_s, x0, x1, l1, i0, i1]
theorem fd_UnknownName (u : U) (st : List U) : m__law_field [exU "UnknownName" "name" u] st = .ok (.tup [u]) st := by
  have i0 := fl_in (c := PySem.Str.ofString "UnknownName") (us := fl0) (b := false) (by decide +kernel)
  have i1 := fl_in (c := PySem.Str.ofString "UnknownName") (us := fl1) (b := false) (by decide +kernel)
  have i2 := fl_in (c := PySem.Str.ofString "UnknownName") (us := fl2) (b := false) (by decide +kernel)
  have i3 := fl_in (c := PySem.Str.ofString "UnknownName") (us := fl3) (b := true) (by decide +kernel)
  have x0 : xlL (PySem.Str.ofString "UnknownName") (PySem.Str.ofString "code") = true := by decide +kernel
  have x1 : xlL (PySem.Str.ofString "UnknownName") (PySem.Str.ofString "name") = true := by decide +kernel
  have l1 := fun (v u : U) => lk1 (f := PySem.Str.ofString "name") (v := v) (u := u)
  simp only [fl0, fl1, fl2, fl3] at i0 i1 i2 i3
  simp [m__law_field, b__law_field, exU, getX_s, x0, x1, l1, i0, i1, i2, i3]
theorem fd_NothingLeft (st : List U) : m__law_field [ex0 "NothingLeft"] st = .ok (.tup []) st := by
  have i0 := fl_in (c := PySem.Str.ofString "NothingLeft") (us := fl0) (b := false) (by decide +kernel)
  have i1 := fl_in (c := PySem.Str.ofString "NothingLeft") (us := fl1) (b := false) (by decide +kernel)
  have i2 := fl_in (c := PySem.Str.ofString "NothingLeft") (us := fl2) (b := false) (by decide +kernel)
  have i3 := fl_in (c := PySem.Str.ofString "NothingLeft") (us := fl3) (b := false) (by decide +kernel)
  have i4 := fl_in (c := PySem.Str.ofString "NothingLeft") (us := fl4) (b := false) (by decide +kernel)
  have x0 : xlL (PySem.Str.ofString "NothingLeft") (PySem.Str.ofString "code") = true := by decide +kernel
  simp only [fl0, fl1, fl2, fl3, fl4] at i0 i1 i2 i3 i4
  simp [m__law_field, b__law_field, ex0, getX_s, x0, i0, i1, i2, i3, i4]
theorem told_1 {c f : PySem.Str} {u : U} {m : M U} {e : List Sl} {st : List U} {s' : MS} (h : m ⟨e, st⟩ = .err (exU c f u) s') (hf : ∀ st, m__law_field [exU c f u] st = .ok (.tup [u]) st) (hp : plnU u = true) (ho : okcL c = true) (ht : hasTb "law" st = true) (ht' : hasTb "law" s'.st = true) :
    toldM (arF 1 [] m__law_field) okcL "law" m ⟨e, st⟩ = .ok (.tup [.str "no", .str c, u]) s' := by
  unfold toldM
  rw [if_pos ht, h]
  show hdlM _ _ _ (.exc c [("code", .str c), (f, u)]) s' = _
  unfold hdlM
  have tb : hasTb "law" [.tbl "law"] = true := by decide +kernel
  have a := hf [.tbl "law"]
  unfold exU at a
  have p : ∀ z : PySem.Str, plnU (.str z) = true := fun _ => rfl
  simp [ho, p, hp, ht', a, tb]
theorem told_0 {c : PySem.Str} {m : M U} {e : List Sl} {st : List U} {s' : MS} (h : m ⟨e, st⟩ = .err (ex0 c) s') (hf : ∀ st, m__law_field [ex0 c] st = .ok (.tup []) st) (ho : okcL c = true) (ht : hasTb "law" st = true) (ht' : hasTb "law" s'.st = true) :
    toldM (arF 1 [] m__law_field) okcL "law" m ⟨e, st⟩ = .ok (.tup [.str "no", .str c]) s' := by
  unfold toldM
  rw [if_pos ht, h]
  show hdlM _ _ _ (.exc c [("code", .str c)]) s' = _
  unfold hdlM
  have tb : hasTb "law" [.tbl "law"] = true := by decide +kernel
  have a := hf [.tbl "law"]
  unfold ex0 at a
  have p : ∀ z : PySem.Str, plnU (.str z) = true := fun _ => rfl
  simp [ho, p, ht', a, tb]
end Br

namespace Br
open PySem
/-! texts of numbers, in plain lists -/
def ascL (l : List Nat) : Bool := l.all fun c => decide (c < 128)
theorem par_none : ∀ (l acc : List Nat), 47 ∉ l → TL.par [47] acc l = none
  | [], _, _ => rfl
  | c :: r, acc, h => by
    have hc : c ≠ 47 := fun e => h (by simp [e])
    rw [TL.par_miss (by simp [TL.pre, hc])]
    exact par_none r _ fun z => h (by simp [z])
theorem par_some : ∀ (p acc q : List Nat), 47 ∉ p → TL.par [47] acc (p ++ 47 :: q) = some (acc ++ p, q)
  | [], acc, q, _ => by
    rw [List.nil_append, TL.par_hit (by simp [TL.pre])]
    show some (acc, q) = _
    rw [List.append_nil]
  | c :: r, acc, q, h => by
    have hc : c ≠ 47 := fun e => h (by simp [e])
    rw [List.cons_append, TL.par_miss (by simp [TL.pre, hc]), par_some r _ q fun z => h (by simp [z])]
    simp
theorem part_none {l : List Nat} (h : 47 ∉ l) : Txt.partition ⟨l.toArray⟩ (Str.ofString "/") = (⟨l.toArray⟩, ⟨#[]⟩, ⟨#[]⟩) := by
  have e := SX.partition_none (a := l) (b := [47]) (by simp) (par_none l [] h)
  rw [show Str.ofString "/" = SX.S [47] by decide +kernel]
  exact e
theorem part_some {p q : List Nat} (h : 47 ∉ p) : Txt.partition ⟨(p ++ 47 :: q).toArray⟩ (Str.ofString "/") = (⟨p.toArray⟩, Str.ofString "/", ⟨q.toArray⟩) := by
  have e := SX.partition_some (a := p ++ 47 :: q) (b := [47]) (by simp) (par_some p [] q h)
  rw [show Str.ofString "/" = SX.S [47] by decide +kernel]
  exact e
def dig (c : Nat) : Bool := decide (48 ≤ c) && decide (c ≤ 57)
theorem uni_dig {c : Nat} (h : c < 128) : Unicode.isDigit c = dig c := by
  have k : ∀ n : Fin 128, Unicode.isDigit n.val = dig n.val := by decide +kernel
  exact k ⟨c, h⟩
theorem isdig_txt {l : List Nat} (h : ascL l = true) : Txt.isdigit ⟨l.toArray⟩ = (!l.isEmpty && l.all dig) := by
  unfold Txt.isdigit
  have e : (⟨l.toArray⟩ : Str).cps.all Unicode.isDigit = l.all dig := by
    show l.toArray.all Unicode.isDigit = _
    rw [List.all_toArray]
    unfold ascL at h
    induction l with
    | nil => rfl
    | cons c r ih =>
      rw [List.all_cons, Bool.and_eq_true] at h
      rw [List.all_cons, List.all_cons, ih h.2, uni_dig (of_decide_eq_true h.1)]
  rw [e]
  congr 1
  cases l with
  | nil => rfl
  | cons c r => show decide ((c :: r).toArray.size > 0) = _; simp
theorem starts_minus (l : List Nat) : Txt.startswith ⟨l.toArray⟩ (Str.ofString "-") = decide (l.head? = some 45) := by
  rw [show Str.ofString "-" = SX.S [45] by decide +kernel]
  unfold Txt.startswith
  rw [StrLaws.subAt_eq]
  show (decide (0 + 1 ≤ l.toArray.size) && ((l.toArray.toList.drop 0).take 1 == [45])) = _
  cases l with
  | nil => rfl
  | cons c r =>
    by_cases h : c = 45
    · simp [h]
    · simp [h]
/-- digits, and not too many -/
def dgs (l : List Nat) : Bool := decide (0 < l.length) && decide (l.length ≤ 30) && l.all dig
theorem dig_all {l : List Nat} (h : l.all dig = true) : NumText.AllDigits l := fun c hc => by
  have := List.all_eq_true.mp h c hc
  unfold dig at this
  simpa using this
theorem int_dgs {l : List Nat} (h : dgs l = true) : intText? ⟨l.toArray⟩ = some ((NumText.digitsVal l : Nat) : Int) := by
  unfold dgs at h
  simp only [Bool.and_eq_true, decide_eq_true_eq] at h
  have e := intText_digits (x := ⟨l.toArray⟩) (by show NumText.AllDigits l.toArray.toList; simpa using dig_all h.2) (by show l.toArray.toList ≠ []; intro z; simp at z; rw [z] at h; simp at h) (by show l.toArray.size ≤ _; simp; omega)
  rw [e]
theorem int_neg {l : List Nat} (h : dgs l = true) : intText? ⟨(45 :: l).toArray⟩ = some (-((NumText.digitsVal l : Nat) : Int)) := by
  unfold dgs at h
  simp only [Bool.and_eq_true, decide_eq_true_eq] at h
  exact intText_neg (x := ⟨(45 :: l).toArray⟩) (cs := l) (by show (45 :: l).toArray.toList = _; simp) (dig_all h.2) (fun z => by rw [z] at h; simp at h) (by show (45 :: l).toArray.size ≤ _; simp; omega)
/-- what stands ahead of the first / and behind it -/
def n47 (c : Nat) : Bool := !decide (c = 47)
def topL (l : List Nat) : List Nat := l.takeWhile n47
def botL (l : List Nat) : List Nat := (l.dropWhile n47).tail
theorem top_free (l : List Nat) : 47 ∉ topL l := fun h => by
  have := List.all_takeWhile (l := l) (p := n47)
  have := List.all_eq_true.mp this 47 h
  simp [n47] at this
theorem top_bot {l : List Nat} (h : 47 ∈ l) : l = topL l ++ 47 :: botL l := by
  unfold topL botL
  induction l with
  | nil => cases h
  | cons c r ih =>
    by_cases z : c = 47
    · subst z; simp [n47]
    · rcases List.mem_cons.mp h with h | h
      · exact absurd h.symm z
      · have := ih h
        have e : n47 c = true := by simp [n47, z]
        simp only [List.takeWhile_cons, List.dropWhile_cons, e, if_true, List.cons_append]
        rw [← this]
theorem tw_all : ∀ (l : List Nat), 47 ∉ l → l.takeWhile n47 = l
  | [], _ => rfl
  | c :: r, h => by
    have e : n47 c = true := by
      have : c ≠ 47 := fun z => h (by simp [z])
      simp [n47, this]
    rw [List.takeWhile_cons, e, if_pos rfl, tw_all r fun z => h (by simp [z])]
theorem tw_at : ∀ (p q : List Nat), 47 ∉ p → (p ++ 47 :: q).takeWhile n47 = p
  | [], q, _ => by simp [n47]
  | c :: r, q, h => by
    have e : n47 c = true := by
      have : c ≠ 47 := fun z => h (by simp [z])
      simp [n47, this]
    rw [List.cons_append, List.takeWhile_cons, e, if_pos rfl, tw_at r q fun z => h (by simp [z])]
theorem top_all {l : List Nat} (h : 47 ∉ l) : topL l = l := tw_all l h
/-- the texts of numbers -/
def sgn (n : Int) : List Nat := if n < 0 then [45] else []
def cT (n : Int) (d : Nat) : List Nat := sgn n ++ TL.numL n.natAbs ++ (if d = 1 then [] else 47 :: TL.numL d)
theorem num_ne (n : Nat) : TL.numL n ≠ [] := TL.numL_ne n
theorem num_dig (n : Nat) : (TL.numL n).all dig = true := List.all_eq_true.mpr fun c hc => by
  have := TL.numL_digits n c hc
  unfold dig
  simp [this]
/-- no zero ahead -/
theorem num_head (n : Nat) (h : (TL.numL n).head? = some 48) : n = 0 := by
  induction n using Nat.strongRecOn with
  | _ n ih =>
    by_cases z : n < 10
    · rw [TL.numL_lt z] at h
      simp at h
      exact h
    · have z : 10 ≤ n := by omega
      rw [TL.numL_step z] at h
      have e : (TL.numL (n / 10) ++ [48 + n % 10]).head? = (TL.numL (n / 10)).head? := by
        cases q : TL.numL (n / 10) with
        | nil => exact absurd q (num_ne _)
        | cons a r => rfl
      rw [e] at h
      have := ih (n / 10) (by omega) h
      omega
theorem sgn_dig (n : Int) (c : Nat) (h : c ∈ sgn n) : c = 45 := by
  unfold sgn at h
  split at h
  · simpa using h
  · cases h
theorem cT_chars (n : Int) (d : Nat) (c : Nat) (h : c ∈ cT n d) : c = 45 ∨ c = 47 ∨ (48 ≤ c ∧ c ≤ 57) := by
  unfold cT at h
  rcases List.mem_append.mp h with h | h
  · rcases List.mem_append.mp h with h | h
    · exact .inl (sgn_dig n c h)
    · exact .inr (.inr (TL.numL_digits _ c h))
  · split at h
    · cases h
    · rcases List.mem_cons.mp h with h | h
      · exact .inr (.inl h)
      · exact .inr (.inr (TL.numL_digits _ c h))
theorem cT_asc (n : Int) (d : Nat) : ascL (cT n d) = true := List.all_eq_true.mpr fun c hc => decide_eq_true (by have := cT_chars n d c hc; omega)
theorem free_pre (n : Int) : 47 ∉ sgn n ++ TL.numL n.natAbs := fun h => by
  rcases List.mem_append.mp h with h | h
  · have := sgn_dig n _ h; omega
  · exact TL.numL_free (by omega) h
theorem cT_slash {n : Int} {d : Nat} : 47 ∈ cT n d ↔ d ≠ 1 := by
  unfold cT
  by_cases h : d = 1
  · simp [h]
    have := free_pre n
    simpa using this
  · simp [h]
theorem cT_top (n : Int) (d : Nat) : topL (cT n d) = sgn n ++ TL.numL n.natAbs := by
  unfold topL cT
  have f := free_pre n
  by_cases h : d = 1
  · rw [if_pos h, List.append_nil]; exact top_all f
  · rw [if_neg h]; exact tw_at _ _ f
theorem cT_bot {n : Int} {d : Nat} (h : d ≠ 1) : botL (cT n d) = TL.numL d := by
  have e := top_bot (cT_slash (n := n).mpr h)
  rw [cT_top] at e
  have e2 : cT n d = sgn n ++ TL.numL n.natAbs ++ 47 :: TL.numL d := by unfold cT; rw [if_neg h]
  have := List.append_cancel_left (e2.symm.trans e)
  injection this with _ this
  exact this.symm
/-- a text read: above, below -/
def rdT (l : List Nat) : Option (Int × Nat) :=
  if (topL l).head? = some 45 then
    (if dgs ((topL l).drop 1) = true then (if 47 ∈ l then (if dgs (botL l) = true then (if NumText.digitsVal (botL l) = 0 then none else some (-((NumText.digitsVal ((topL l).drop 1) : Nat) : Int), NumText.digitsVal (botL l))) else none) else some (-((NumText.digitsVal ((topL l).drop 1) : Nat) : Int), 1)) else none)
  else (if dgs (topL l) = true then (if 47 ∈ l then (if dgs (botL l) = true then (if NumText.digitsVal (botL l) = 0 then none else some (((NumText.digitsVal (topL l) : Nat) : Int), NumText.digitsVal (botL l))) else none) else some (((NumText.digitsVal (topL l) : Nat) : Int), 1)) else none)
theorem dgs_num {m : Nat} (h : m < 10 ^ 30) : dgs (TL.numL m) = true := by
  unfold dgs
  have h1 : 0 < (TL.numL m).length := List.length_pos_iff.mpr (num_ne m)
  have h2 := TL.numL_len (n := m) (k := 30) (by decide) h
  rw [num_dig, decide_eq_true h1, decide_eq_true h2]; rfl
theorem num_not45 (m : Nat) (r : List Nat) : (TL.numL m ++ r).head? ≠ some 45 := fun h => by
  cases q : TL.numL m with
  | nil => exact absurd q (num_ne m)
  | cons a t =>
    rw [q] at h
    simp at h
    exact TL.numL_free (n := m) (s := 45) (by omega) (by rw [q, h]; simp)
theorem rd_cT {n : Int} {d : Nat} (hn : n.natAbs < 10 ^ 30) (hd : d < 10 ^ 30) (h0 : d ≠ 0) : rdT (cT n d) = some (n, d) := by
  unfold rdT
  rw [cT_top]
  have dn := dgs_num hn
  have dd := dgs_num hd
  by_cases neg : n < 0
  · have e : sgn n ++ TL.numL n.natAbs = 45 :: TL.numL n.natAbs := by unfold sgn; rw [if_pos neg]; rfl
    rw [e, if_pos (show (45 :: TL.numL n.natAbs).head? = some 45 from rfl), List.drop_one, List.tail_cons, if_pos dn, TL.numL_val]
    have en : -((n.natAbs : Nat) : Int) = n := by omega
    by_cases h1 : d = 1
    · rw [if_neg (fun z => cT_slash.mp z h1), en, h1]
    · rw [if_pos (cT_slash.mpr h1), cT_bot h1, if_pos dd, TL.numL_val, if_neg h0, en]
  · have e : sgn n ++ TL.numL n.natAbs = TL.numL n.natAbs := by unfold sgn; rw [if_neg neg]; rfl
    have nh := num_not45 n.natAbs []
    rw [List.append_nil] at nh
    rw [e, if_neg nh, if_pos dn, TL.numL_val]
    have en : ((n.natAbs : Nat) : Int) = n := by omega
    by_cases h1 : d = 1
    · rw [if_neg (fun z => cT_slash.mp z h1), en, h1]
    · rw [if_pos (cT_slash.mpr h1), cT_bot h1, if_pos dd, TL.numL_val, if_neg h0, en]
/-- the number of a text, if it is the number's own -/
def okT (l : List Nat) : Option Rat := match rdT l with
  | none => none
  | some (n, b) => if cT (Rat.divInt n b).num (Rat.divInt n b).den = l then some (Rat.divInt n b) else none
theorem okT_own {l : List Nat} {x : Rat} (h : okT l = some x) : l = cT x.num x.den := by
  unfold okT at h
  split at h
  · cases h
  · split at h
    · rename_i e
      cases h
      exact e.symm
    · cases h
theorem okT_cT {x : Rat} (hn : x.num.natAbs < 10 ^ 30) (hd : x.den < 10 ^ 30) : okT (cT x.num x.den) = some x := by
  unfold okT
  rw [rd_cT hn hd (by have := x.den_pos; omega)]
  have e : Rat.divInt x.num (x.den : Int) = x := Rat.num_divInt_den x
  show (if cT (Rat.divInt x.num (x.den : Int)).num (Rat.divInt x.num (x.den : Int)).den = _ then some (Rat.divInt x.num (x.den : Int)) else none) = _
  rw [e, if_pos rfl]
theorem okT_none {l : List Nat} (h : ∀ x : Rat, l ≠ cT x.num x.den) : okT l = none := by
  cases e : okT l with
  | none => rfl
  | some x => exact absurd (okT_own e) (h x)
theorem bad_char {l : List Nat} {c : Nat} (h : c ∈ l) (hc : c ≠ 45 ∧ c ≠ 47 ∧ (c < 48 ∨ 57 < c)) : okT l = none := okT_none fun x e => by
  rw [e] at h
  have := cT_chars _ _ _ h
  omega
theorem bad_one (x : Rat) : okT (cT x.num x.den ++ [47, 49]) = none := okT_none fun y e => by
  have m : 47 ∈ cT y.num y.den := by rw [← e]; simp
  have d1 := cT_slash.mp m
  by_cases h : x.den = 1
  · have t : cT x.num x.den ++ [47, 49] = sgn x.num ++ TL.numL x.num.natAbs ++ 47 :: [49] := by unfold cT; rw [if_pos h, List.append_nil]
    have f := free_pre x.num
    have e1 := top_bot m
    rw [← e, t] at e1
    have tp : topL (sgn x.num ++ TL.numL x.num.natAbs ++ 47 :: [49]) = sgn x.num ++ TL.numL x.num.natAbs := tw_at _ _ f
    rw [tp] at e1
    have e2 := List.append_cancel_left e1
    injection e2 with _ e2
    have e3 := cT_bot (n := y.num) d1
    rw [← e, t, ← e2] at e3
    have e4 : TL.numL 1 = [49] := TL.numL_lt (by decide)
    rw [← e4] at e3
    exact d1 (TL.numL_inj e3).symm
  · have t : cT x.num x.den ++ [47, 49] = sgn x.num ++ TL.numL x.num.natAbs ++ 47 :: (TL.numL x.den ++ [47, 49]) := by unfold cT; rw [if_neg h]; simp
    have f := free_pre x.num
    have e1 := top_bot m
    rw [← e, t] at e1
    have tp : topL (sgn x.num ++ TL.numL x.num.natAbs ++ 47 :: (TL.numL x.den ++ [47, 49])) = sgn x.num ++ TL.numL x.num.natAbs := tw_at _ _ f
    rw [tp] at e1
    have e2 := List.append_cancel_left e1
    injection e2 with _ e2
    have e3 := cT_bot (n := y.num) d1
    rw [← e, t, ← e2] at e3
    exact TL.numL_free (n := y.den) (s := 47) (by omega) (by rw [← e3]; simp)
theorem cT_ne (n : Int) (d : Nat) : cT n d ≠ [] := fun h => by
  unfold cT at h
  have := congrArg List.length h
  simp only [List.length_append, List.length_nil] at this
  have := List.length_pos_iff.mpr (num_ne n.natAbs)
  omega
theorem bad_zero (x : Rat) : okT (48 :: cT x.num x.den) = none := okT_none fun y e => by
  unfold cT at e
  by_cases neg : y.num < 0
  · rw [show sgn y.num = [45] by unfold sgn; rw [if_pos neg]] at e
    simp at e
  · rw [show sgn y.num = [] by unfold sgn; rw [if_neg neg], List.nil_append] at e
    have hd : (TL.numL y.num.natAbs).head? = some 48 := by
      cases q : TL.numL y.num.natAbs with
      | nil => exact absurd q (num_ne _)
      | cons a r =>
        rw [q] at e
        simp only [List.cons_append, List.cons.injEq] at e
        rw [← e.1]; rfl
    have n0 := num_head _ hd
    have y0 : y.num = 0 := by omega
    have y1 : y = 0 := Rat.num_eq_zero.mp y0
    rw [y1] at e
    have : cT x.num x.den = [] := by
      have e4 : TL.numL 0 = [48] := TL.numL_lt (by decide)
      have e := e
      simp [e4] at e
      unfold cT
      simpa using e
    exact cT_ne _ _ this
end Br

namespace Br
open Mi Mx
/-! texts of numbers, read -/
theorem itx_cT (z : Int) : itx z = txt (sgn z ++ TL.numL z.natAbs) := by
  cases z with
  | ofNat n =>
    have e := SX.num_S n
    have s0 : sgn (Int.ofNat n) = [] := by unfold sgn; rw [if_neg (by have : (0 : Int) ≤ Int.ofNat n := Int.natCast_nonneg n; omega)]
    rw [s0]
    exact e
  | negSucc m =>
    have s0 : sgn (Int.negSucc m) = [45] := by unfold sgn; rw [if_pos (Int.negSucc_lt_zero m)]
    rw [s0]
    have e := SX.num_S (m + 1)
    have t1 : (toString (Int.negSucc m) : String) = "-" ++ Nat.repr (m + 1) := rfl
    have t2 : (toString (((m + 1 : Nat)) : Int) : String) = Nat.repr (m + 1) := rfl
    unfold itx
    rw [t1]
    rw [t2] at e
    show PySem.Str.ofString _ = _
    have ap : ∀ a b : String, PySem.Str.ofString (a ++ b) = PySem.Str.ofString a ++ PySem.Str.ofString b := fun a b => by
      rw [PySem.Str.ofString_eq_toList, PySem.Str.ofString_eq_toList, PySem.Str.ofString_eq_toList, String.toList_append, List.map_append]
      show _ = (⟨_ ++ _⟩ : PySem.Str)
      simp
    rw [ap, e, show PySem.Str.ofString "-" = txt [45] by decide +kernel, show SX.S (TL.numL (m + 1)) = txt (TL.numL (m + 1)) from rfl, txt_app]
    rfl
theorem rtx_cT (x : Rat) : rtx x = txt (cT x.num x.den) := by
  unfold rtx cT
  by_cases h : x.den = 1
  · rw [if_pos h, if_pos h, itx_cT, List.append_nil]
  · rw [if_neg h, if_neg h, itx_cT, itx_cT]
    have s0 : sgn (x.den : Int) = [] := by unfold sgn; rw [if_neg (by omega)]
    rw [s0, List.nil_append, Int.natAbs_natCast, show PySem.Str.ofString "/" = txt [47] by decide +kernel, txt_app, txt_app]
    simp
theorem txt_inj {a b : List Nat} (h : txt a = txt b) : a = b := by
  have := congrArg (fun z : PySem.Str => z.cps.toList) h
  simpa [txt] using this
theorem asc_ok {l : List Nat} (h : ascL l = true) : strOk (txt l) := by
  unfold strOk PySem.PyData.strOk txt
  simp only [List.all_toArray, List.all_eq_true, decide_eq_true_eq]
  intro c hc
  have := of_decide_eq_true (List.all_eq_true.mp h c hc)
  omega
theorem asc_mem {l m : List Nat} (h : ascL l = true) (k : ∀ c ∈ m, c ∈ l) : ascL m = true := List.all_eq_true.mpr fun c hc => List.all_eq_true.mp h c (k c hc)
theorem e_isd {l : List Nat} (ha : ascL l = true) (hl : l.length ≤ 1000) (st : List U) : m_is_digits [.str (txt l)] st = .ok (.bl (dgs l)) st := by
  have e := isdig_txt ha
  have ln : l.length ≤ PySem.sizeLine := Nat.le_trans hl (by decide)
  have e' : PySem.Txt.isdigit (txt l) = (!l.isEmpty && l.all dig) := e
  have iS : ∀ (a : PySem.Str) s, isdigU (.str a) [] s = .ok (.bl (PySem.Txt.isdigit a)) s := fun _ _ => rfl
  unfold dgs
  by_cases h0 : 0 < l.length
  · have h0' : (0 : Int) < (l.length : Int) := by omega
    by_cases h1 : l.length ≤ 30
    · have h1' : (l.length : Int) ≤ 30 := by omega
      have ne : l.isEmpty = false := by
        cases l with
        | nil => simp at h0
        | cons a r => rfl
      simp [m_is_digits, b_is_digits, c_MOST_DIGITS, ln, txt_len, h0, h0', h1, h1', iS, e', ne]
    · have h1' : ¬ (l.length : Int) ≤ 30 := by omega
      simp [m_is_digits, b_is_digits, c_MOST_DIGITS, ln, txt_len, h0, h0', h1, h1', iS, e']
  · have h0' : ¬ (0 : Int) < (l.length : Int) := by omega
    simp [m_is_digits, b_is_digits, c_MOST_DIGITS, ln, txt_len, h0, h0', iS, e']
theorem val_lt : ∀ (l : List Nat) (a : Nat), (l.all dig) = true → l.foldl (fun acc c => acc * 10 + (c - 48)) a < (a + 1) * 10 ^ l.length
  | [], a, _ => by simp
  | c :: r, a, h => by
    rw [List.all_cons, Bool.and_eq_true] at h
    have hc := h.1
    unfold dig at hc
    simp only [Bool.and_eq_true, decide_eq_true_eq] at hc
    have ih := val_lt r (a * 10 + (c - 48)) h.2
    rw [List.foldl_cons, List.length_cons]
    refine Nat.lt_of_lt_of_le ih ?_
    rw [Nat.pow_succ, Nat.mul_comm (10 ^ r.length) 10, ← Nat.mul_assoc]
    exact Nat.mul_le_mul_right _ (by omega)
theorem val_dgs {l : List Nat} (h : dgs l = true) : PySem.NumText.digitsVal l < 2 ^ 110 := by
  unfold dgs at h
  simp only [Bool.and_eq_true, decide_eq_true_eq] at h
  have e := val_lt l 0 h.2
  have p : 10 ^ l.length ≤ 10 ^ 30 := Nat.pow_le_pow_right (by decide) h.1.2
  have q : (10 : Nat) ^ 30 < 2 ^ 110 := by decide
  show l.foldl _ 0 < _
  omega
theorem e_rtxK {x : Rat} (h : Sz 110 x) (st : List U) : m_ratio_text [qU x] st = .ok (.str (rtx x)) st := by
  have c : ∀ st, m_checked [.tup [.int x.num, .int x.den]] st = .ok (.tup [.int x.num, .int x.den]) st := fun st => e_checked_q (h.mono (by decide) : Ok4 x) st
  have g1 : x.num.natAbs.log2 < 1920 := Nat.lt_trans (log_lt (by decide) h.a) (by decide)
  have g2 : x.den.log2 < 1920 := Nat.lt_trans (log_lt (by decide) h.b) (by decide)
  have h1 := itx_len (i := x.num) (k := 110) (by decide) h.a
  have h2 := itx_len (i := (x.den : Int)) (k := 110) (by decide) h.b
  by_cases e : x.den = 1
  · have ei : ((x.den : Int) = 1) := by omega
    rw [ei] at c
    simp [m_ratio_text, b_ratio_text, c, qU, eqU_int, ei, g1, rtx, e, -str_i, -fmt_i, str_i', fmt_i']
  · have ei : ¬ ((x.den : Int) = 1) := by omega
    have k1 : (PySem.Str.empty ++ itx x.num).length ≤ PySem.sizeLine := by rw [empty_app]; exact le_line (by omega)
    have k2 : (itx x.num ++ PySem.Str.ofString "/").length ≤ PySem.sizeLine := by rw [ln, sep_len]; exact le_line (by omega)
    have k3 : (itx x.num ++ PySem.Str.ofString "/" ++ itx (x.den : Int)).length ≤ PySem.sizeLine := by rw [ln, ln, sep_len]; exact le_line (by omega)
    simp only [empty_app] at k1
    simp [m_ratio_text, b_ratio_text, c, qU, eqU_int, ei, g1, g2, rtx, e, empty_app, k1, k2, k3, -str_i, -fmt_i, str_i', fmt_i']
end Br

namespace Br
open Mi Mx
theorem cut_1 (c : Nat) (l : List Nat) : L2.cutS (txt (c :: l)) (some 1) none = txt l := by
  unfold L2.cutS
  have h1 : HT.sIx (txt (c :: l)).length 0 (some 1) = 1 := by
    have := HT.sIx_nat (txt (c :: l)).length 0 1
    rw [show ((1 : Nat) : Int) = 1 from rfl] at this
    rw [this, txt_len, List.length_cons]; omega
  rw [h1, HT.sIx_none]
  have e : (txt (c :: l)).cps.toList = c :: l := by show (c :: l).toArray.toList = _; simp
  rw [e, txt_len, List.drop_one, List.tail_cons, List.length_cons, show l.length + 1 - 1 = l.length by omega, List.take_length]
  rfl
theorem ix_top (l : List Nat) : ∀ c ∈ topL l, c ∈ l := fun c hc => List.Sublist.mem hc (List.takeWhile_sublist _)
theorem ix_bot (l : List Nat) : ∀ c ∈ botL l, c ∈ l := fun c hc => by
  unfold botL at hc
  exact List.Sublist.mem (List.mem_of_mem_tail hc) (List.dropWhile_sublist _)
/-- behind the splitting: what is left to do -/
theorem e_read {l : List Nat} (ha : ascL l = true) (hl : l.length ≤ 640) (st : List U) : m_read_ratio [.str (txt l)] st = match okT l with
    | some x => .ok (qU x) st
    | none => .err (ex0 "ParseError") st := by
  have il : ∀ s, isTy "str" (.str s) = true := fun _ => rfl
  have pU : ∀ a b s, partU (.str a) [.str b] s = (when (!(b.length == 0) && decide (a.length ≤ PySem.sizeLine)) (ret (.tup [.str (PySem.Txt.partition a b).1, .str (PySem.Txt.partition a b).2.1, .str (PySem.Txt.partition a b).2.2])) : M U) s := fun _ _ _ => rfl
  have sU : ∀ a b s, startsU (.str a) [.str b] s = .ok (.bl (PySem.Txt.startswith a b)) s := fun _ _ _ => rfl
  have lt : l.length ≤ PySem.sizeLine := Nat.le_trans hl (by decide)
  have sl1 : (PySem.Str.ofString "/").length = 1 := by decide +kernel
  have at_ := asc_mem ha (ix_top l)
  have ab := asc_mem ha (ix_bot l)
  have ltop : (topL l).length ≤ l.length := (List.takeWhile_sublist _).length_le
  have lbot : (botL l).length ≤ l.length := by unfold botL; rw [List.length_tail]; have := (List.dropWhile_sublist n47 (l := l)).length_le; omega
  have pt : ∃ sl, PySem.Txt.partition (txt l) (PySem.Str.ofString "/") = (txt (topL l), sl, txt (botL l)) ∧ sl = if 47 ∈ l then PySem.Str.ofString "/" else PySem.Str.ofString "" := by
    by_cases h : 47 ∈ l
    · have e := part_some (p := topL l) (q := botL l) (top_free l)
      rw [← top_bot h] at e
      exact ⟨_, e, by rw [if_pos h]⟩
    · have e := part_none h
      have eb : botL l = [] := by
        unfold botL
        have : l.dropWhile n47 = [] := by
          have t := List.takeWhile_append_dropWhile (p := n47) (l := l)
          have u := top_all h
          unfold topL at u
          rw [u] at t
          have := congrArg List.length t
          rw [List.length_append] at this
          exact List.length_eq_zero_iff.mp (by omega)
        rw [this]; rfl
      exact ⟨_, e.trans (by rw [top_all h, eb]; rfl), by rw [if_neg h]; decide +kernel⟩
  obtain ⟨sl, ep, esl⟩ := pt
  have e1 : eqU false (.str (PySem.Str.ofString "/")) (.str (PySem.Str.ofString "/")) = ret (.bl true) := by rw [eqU_str (ok_of _) (ok_of _), show (PySem.Str.ofString "/" == PySem.Str.ofString "/") = true by decide +kernel]; rfl
  have e2 : eqU false (.str (PySem.Str.ofString "")) (.str (PySem.Str.ofString "/")) = ret (.bl false) := by rw [eqU_str (ok_of _) (ok_of _), show (PySem.Str.ofString "" == PySem.Str.ofString "/") = false by decide +kernel]; rfl
  have isd := fun {m : List Nat} (h : ascL m = true) (k : m.length ≤ l.length) (st : List U) => e_isd h (by omega) st
  have iT : ∀ (a : PySem.Str) (n : Int) s, PySem.intText? a = some n → a.length ≤ 640 → intU [.str a] s = .ok (.int n) s := fun a n s h k => by
    show (match PySem.intText? a with
      | some n => when (decide (a.length ≤ 640)) (ret (.int n))
      | none => stk : M U) s = _
    rw [h, decide_eq_true k]; rfl
  -- the tail, when it is read
  have key : ∀ (n : Int) (b : Nat), b ≠ 0 → n.natAbs < 2 ^ 110 → b < 2 ^ 110 → rdT l = some (n, b) → ∀ (X : Res (List U) U),
      (X = if cT (Rat.divInt n b).num (Rat.divInt n b).den = l then .ok (qU (Rat.divInt n b)) st else .err (ex0 "ParseError") st) → X = match okT l with
        | some x => .ok (qU x) st
        | none => .err (ex0 "ParseError") st := fun n b h0 hn hb e X hX => by
    rw [hX]
    unfold okT
    rw [e]
    show _ = match (if cT (Rat.divInt n b).num (Rat.divInt n b).den = l then some (Rat.divInt n b) else none) with
        | some x => Res.ok (qU x) st
        | none => .err (ex0 "ParseError") st
    split <;> rfl
  have bad : rdT l = none → ∀ (X : Res (List U) U), X = .err (ex0 "ParseError") st → X = match okT l with
        | some x => .ok (qU x) st
        | none => .err (ex0 "ParseError") st := fun e X hX => by
    rw [hX]; unfold okT; rw [e]
  have tail : ∀ (n : Int) (b : Nat), b ≠ 0 → n.natAbs < 2 ^ 110 → b < 2 ^ 110 → (∀ st, m_ratio [.int n, .int (b : Int)] st = .ok (qU (Rat.divInt n b)) st) ∧ (∀ st, m_ratio_text [qU (Rat.divInt n b)] st = .ok (.str (rtx (Rat.divInt n b))) st) ∧
      eqU true (.str (rtx (Rat.divInt n b))) (.str (txt l)) = ret (.bl (!decide (cT (Rat.divInt n b).num (Rat.divInt n b).den = l))) := fun n b h0 hn hb => by
    have hz : (b : Int) ≠ 0 := by omega
    have hbi : (b : Int).natAbs < 2 ^ 110 := by rw [Int.natAbs_natCast]; exact hb
    have sz : Sz 110 (Rat.divInt n b) := sz_div hz hn hbi
    refine ⟨fun st => e_ratio n b st hz (Nat.lt_trans hbi (Nat.pow_lt_pow_right (by decide) (by decide))), fun st => e_rtxK sz st, ?_⟩
    rw [eqU_str (ok_rtx _) (asc_ok ha)]
    congr 2
    rw [rtx_cT]
    by_cases z : cT (Rat.divInt n b).num (Rat.divInt n b).den = l
    · rw [decide_eq_true z, z]; simp
    · have : (txt (cT (Rat.divInt n b).num (Rat.divInt n b).den) == txt l) = false := by rw [beq_eq_false_iff_ne]; exact fun w => z (txt_inj w)
      rw [this, decide_eq_false z]; rfl
  have sw := starts_minus (topL l)
  have sw' : PySem.Txt.startswith (txt (topL l)) (PySem.Str.ofString "-") = decide ((topL l).head? = some 45) := sw
  have tl640 : (topL l).length ≤ 640 := by omega
  have bl640 : (botL l).length ≤ 640 := by omega
  have lnl : (txt l).length ≤ PySem.sizeLine := by rw [txt_len]; omega
  -- the two ends of the walk
  have isb := isd ab lbot
  by_cases hm : (topL l).head? = some 45
  · obtain ⟨r, er⟩ : ∃ r, topL l = 45 :: r := by
      cases z : topL l with
      | nil => rw [z] at hm; cases hm
      | cons c r => rw [z] at hm; simp at hm; exact ⟨r, by rw [hm]⟩
    have rdr : (topL l).drop 1 = r := by rw [er]; rfl
    have ar : ascL r = true := asc_mem at_ fun c hc => by rw [er]; simp [hc]
    have lr : r.length + 1 ≤ l.length := by have := congrArg List.length er; rw [List.length_cons] at this; omega
    have isd1 := isd ar (by omega)
    rw [er] at ep sw'
    have lnt : r.length + 1 ≤ PySem.sizeLine := by omega
    rw [decide_eq_true (show (45 :: r).head? = some 45 from rfl)] at sw'
    have ct1 := cut_1 45 r
    by_cases hD : dgs (r) = true
    · have iv := fun s => iT (txt (45 :: r)) _ s (int_neg hD) (by rw [txt_len]; rw [List.length_cons]; omega)
      have vb := val_dgs hD
      have vn : (-((PySem.NumText.digitsVal r : Nat) : Int)).natAbs < 2 ^ 110 := by rw [Int.natAbs_neg, Int.natAbs_natCast]; exact vb
      rw [hD] at isd1
      by_cases hs : 47 ∈ l
      · rw [if_pos hs] at esl
        subst esl
        by_cases hB : dgs (botL l) = true
        · have ib := fun s => iT (txt (botL l)) _ s (int_dgs hB) (by rw [txt_len]; exact bl640)
          rw [hB] at isb
          by_cases h0 : PySem.NumText.digitsVal (botL l) = 0
          · refine bad (by unfold rdT; rw [if_pos hm, rdr, if_pos hD, if_pos hs, if_pos hB, if_pos h0]) _ ?_
            have hz : ((PySem.NumText.digitsVal (botL l) : Nat) : Int) = 0 := by omega
            rw [hz] at ib
            simp [m_read_ratio, b_read_ratio, il, pU, sU, sl1, lt, lnl, ep, sw', lnt, ct1, isd1, isb, e1, e2, eqU_int, ex0, txt_len, ib]
          · have hz : ¬ ((PySem.NumText.digitsVal (botL l) : Nat) : Int) = 0 := by omega
            refine key (-((PySem.NumText.digitsVal r : Nat) : Int)) (PySem.NumText.digitsVal (botL l)) h0 vn (val_dgs hB) (by unfold rdT; rw [if_pos hm, rdr, if_pos hD, if_pos hs, if_pos hB, if_neg h0]) _ ?_
            obtain ⟨t1, t2, t3⟩ := tail (-((PySem.NumText.digitsVal r : Nat) : Int)) (PySem.NumText.digitsVal (botL l)) h0 vn (val_dgs hB)
            by_cases hc : cT (Rat.divInt (-((PySem.NumText.digitsVal r : Nat) : Int)) (((PySem.NumText.digitsVal (botL l)) : Nat) : Int)).num (Rat.divInt (-((PySem.NumText.digitsVal r : Nat) : Int)) (((PySem.NumText.digitsVal (botL l)) : Nat) : Int)).den = l
            · rw [if_pos hc]
              rw [decide_eq_true hc] at t3
              generalize Rat.divInt (-((PySem.NumText.digitsVal r : Nat) : Int)) (((PySem.NumText.digitsVal (botL l)) : Nat) : Int) = x at t1 t2 t3
              simp [m_read_ratio, b_read_ratio, il, pU, sU, sl1, lt, lnl, ep, sw', lnt, ct1, isd1, isb, e1, e2, eqU_int, ex0, txt_len, ib, iv, hz, h0, t1, t2, t3]
            · rw [if_neg hc]
              rw [decide_eq_false hc] at t3
              generalize Rat.divInt (-((PySem.NumText.digitsVal r : Nat) : Int)) (((PySem.NumText.digitsVal (botL l)) : Nat) : Int) = x at t1 t2 t3
              simp [m_read_ratio, b_read_ratio, il, pU, sU, sl1, lt, lnl, ep, sw', lnt, ct1, isd1, isb, e1, e2, eqU_int, ex0, txt_len, ib, iv, hz, h0, t1, t2, t3]
        · refine bad (by unfold rdT; rw [if_pos hm, rdr, if_pos hD, if_pos hs, if_neg hB]) _ ?_
          rw [Bool.eq_false_iff.mpr hB] at isb
          simp [m_read_ratio, b_read_ratio, il, pU, sU, sl1, lt, lnl, ep, sw', lnt, ct1, isd1, isb, e1, e2, eqU_int, ex0, txt_len]
      · rw [if_neg hs] at esl
        subst esl
        refine key (-((PySem.NumText.digitsVal r : Nat) : Int)) 1 (by decide) vn (by decide) (by unfold rdT; rw [if_pos hm, rdr, if_pos hD, if_neg hs]) _ ?_
        obtain ⟨t1, t2, t3⟩ := tail (-((PySem.NumText.digitsVal r : Nat) : Int)) 1 (by decide) vn (by decide)
        rw [show (((1 : Nat)) : Int) = 1 from rfl] at t1 t2 t3 ⊢
        by_cases hc : cT (Rat.divInt (-((PySem.NumText.digitsVal r : Nat) : Int)) (1 : Int)).num (Rat.divInt (-((PySem.NumText.digitsVal r : Nat) : Int)) (1 : Int)).den = l
        · rw [if_pos hc]
          rw [decide_eq_true hc] at t3
          generalize Rat.divInt (-((PySem.NumText.digitsVal r : Nat) : Int)) (1 : Int) = x at t1 t2 t3
          simp [m_read_ratio, b_read_ratio, il, pU, sU, sl1, lt, lnl, ep, sw', lnt, ct1, isd1, isb, e1, e2, eqU_int, ex0, txt_len, iv, t1, t2, t3]
        · rw [if_neg hc]
          rw [decide_eq_false hc] at t3
          generalize Rat.divInt (-((PySem.NumText.digitsVal r : Nat) : Int)) (1 : Int) = x at t1 t2 t3
          simp [m_read_ratio, b_read_ratio, il, pU, sU, sl1, lt, lnl, ep, sw', lnt, ct1, isd1, isb, e1, e2, eqU_int, ex0, txt_len, iv, t1, t2, t3]
    · refine bad (by unfold rdT; rw [if_pos hm, rdr, if_neg hD]) _ ?_
      rw [Bool.eq_false_iff.mpr hD] at isd1
      by_cases hs : 47 ∈ l
      · rw [if_pos hs] at esl
        subst esl
        simp [m_read_ratio, b_read_ratio, il, pU, sU, sl1, lt, lnl, ep, sw', lnt, ct1, isd1, isb, e1, e2, eqU_int, ex0, txt_len]
      · rw [if_neg hs] at esl
        subst esl
        simp [m_read_ratio, b_read_ratio, il, pU, sU, sl1, lt, lnl, ep, sw', lnt, ct1, isd1, isb, e1, e2, eqU_int, ex0, txt_len]
  · have isd1 := isd at_ ltop
    rw [decide_eq_false hm] at sw'
    have lnt : (topL l).length ≤ PySem.sizeLine := by omega
    by_cases hD : dgs (topL l) = true
    · have iv := fun s => iT (txt (topL l)) _ s (int_dgs hD) (by rw [txt_len]; exact tl640)
      have vb := val_dgs hD
      have vn : ((PySem.NumText.digitsVal (topL l) : Nat) : Int).natAbs < 2 ^ 110 := by rw [Int.natAbs_natCast]; exact vb
      rw [hD] at isd1
      by_cases hs : 47 ∈ l
      · rw [if_pos hs] at esl
        subst esl
        by_cases hB : dgs (botL l) = true
        · have ib := fun s => iT (txt (botL l)) _ s (int_dgs hB) (by rw [txt_len]; exact bl640)
          rw [hB] at isb
          by_cases h0 : PySem.NumText.digitsVal (botL l) = 0
          · refine bad (by unfold rdT; rw [if_neg hm, if_pos hD, if_pos hs, if_pos hB, if_pos h0]) _ ?_
            have hz : ((PySem.NumText.digitsVal (botL l) : Nat) : Int) = 0 := by omega
            rw [hz] at ib
            simp [m_read_ratio, b_read_ratio, il, pU, sU, sl1, lt, lnl, ep, sw', lnt, isd1, isb, e1, e2, eqU_int, ex0, txt_len, ib]
          · have hz : ¬ ((PySem.NumText.digitsVal (botL l) : Nat) : Int) = 0 := by omega
            refine key ((PySem.NumText.digitsVal (topL l) : Nat) : Int) (PySem.NumText.digitsVal (botL l)) h0 vn (val_dgs hB) (by unfold rdT; rw [if_neg hm, if_pos hD, if_pos hs, if_pos hB, if_neg h0]) _ ?_
            obtain ⟨t1, t2, t3⟩ := tail ((PySem.NumText.digitsVal (topL l) : Nat) : Int) (PySem.NumText.digitsVal (botL l)) h0 vn (val_dgs hB)
            by_cases hc : cT (Rat.divInt ((PySem.NumText.digitsVal (topL l) : Nat) : Int) (((PySem.NumText.digitsVal (botL l)) : Nat) : Int)).num (Rat.divInt ((PySem.NumText.digitsVal (topL l) : Nat) : Int) (((PySem.NumText.digitsVal (botL l)) : Nat) : Int)).den = l
            · rw [if_pos hc]
              rw [decide_eq_true hc] at t3
              generalize Rat.divInt ((PySem.NumText.digitsVal (topL l) : Nat) : Int) (((PySem.NumText.digitsVal (botL l)) : Nat) : Int) = x at t1 t2 t3
              simp [m_read_ratio, b_read_ratio, il, pU, sU, sl1, lt, lnl, ep, sw', lnt, isd1, isb, e1, e2, eqU_int, ex0, txt_len, ib, iv, hz, h0, t1, t2, t3]
            · rw [if_neg hc]
              rw [decide_eq_false hc] at t3
              generalize Rat.divInt ((PySem.NumText.digitsVal (topL l) : Nat) : Int) (((PySem.NumText.digitsVal (botL l)) : Nat) : Int) = x at t1 t2 t3
              simp [m_read_ratio, b_read_ratio, il, pU, sU, sl1, lt, lnl, ep, sw', lnt, isd1, isb, e1, e2, eqU_int, ex0, txt_len, ib, iv, hz, h0, t1, t2, t3]
        · refine bad (by unfold rdT; rw [if_neg hm, if_pos hD, if_pos hs, if_neg hB]) _ ?_
          rw [Bool.eq_false_iff.mpr hB] at isb
          simp [m_read_ratio, b_read_ratio, il, pU, sU, sl1, lt, lnl, ep, sw', lnt, isd1, isb, e1, e2, eqU_int, ex0, txt_len]
      · rw [if_neg hs] at esl
        subst esl
        refine key ((PySem.NumText.digitsVal (topL l) : Nat) : Int) 1 (by decide) vn (by decide) (by unfold rdT; rw [if_neg hm, if_pos hD, if_neg hs]) _ ?_
        obtain ⟨t1, t2, t3⟩ := tail ((PySem.NumText.digitsVal (topL l) : Nat) : Int) 1 (by decide) vn (by decide)
        rw [show (((1 : Nat)) : Int) = 1 from rfl] at t1 t2 t3 ⊢
        by_cases hc : cT (Rat.divInt ((PySem.NumText.digitsVal (topL l) : Nat) : Int) (1 : Int)).num (Rat.divInt ((PySem.NumText.digitsVal (topL l) : Nat) : Int) (1 : Int)).den = l
        · rw [if_pos hc]
          rw [decide_eq_true hc] at t3
          generalize Rat.divInt ((PySem.NumText.digitsVal (topL l) : Nat) : Int) (1 : Int) = x at t1 t2 t3
          simp [m_read_ratio, b_read_ratio, il, pU, sU, sl1, lt, lnl, ep, sw', lnt, isd1, isb, e1, e2, eqU_int, ex0, txt_len, iv, t1, t2, t3]
        · rw [if_neg hc]
          rw [decide_eq_false hc] at t3
          generalize Rat.divInt ((PySem.NumText.digitsVal (topL l) : Nat) : Int) (1 : Int) = x at t1 t2 t3
          simp [m_read_ratio, b_read_ratio, il, pU, sU, sl1, lt, lnl, ep, sw', lnt, isd1, isb, e1, e2, eqU_int, ex0, txt_len, iv, t1, t2, t3]
    · refine bad (by unfold rdT; rw [if_neg hm, if_neg hD]) _ ?_
      rw [Bool.eq_false_iff.mpr hD] at isd1
      by_cases hs : 47 ∈ l
      · rw [if_pos hs] at esl
        subst esl
        simp [m_read_ratio, b_read_ratio, il, pU, sU, sl1, lt, lnl, ep, sw', lnt, isd1, isb, e1, e2, eqU_int, ex0, txt_len]
      · rw [if_neg hs] at esl
        subst esl
        simp [m_read_ratio, b_read_ratio, il, pU, sU, sl1, lt, lnl, ep, sw', lnt, isd1, isb, e1, e2, eqU_int, ex0, txt_len]
end Br

namespace Br
open Mi PySem
variable {a0 a1 a2 a3 a4 a5 a6 a7 a8 : Sl}
theorem e_q {x y : Rat} {neg : Bool} : eqU neg (qU x) (qU y) = ret (.bl (xor neg (decide (x = y)))) := by
  have e := eqU_q neg x.num (x.den : Int) y.num (y.den : Int)
  rw [qU_def, qU_def, e, decide_eq_decide.mpr q_inj]
/-- a text that is none of a number -/
def BadT (z : Str) : Prop := ∃ l : List Nat, z = txt l ∧ ascL l = true ∧ l.length ≤ 640 ∧ okT l = none
theorem k04_one {z : Str} (h : BadT z) {st : List U} (ht : hasTb "law" st = true) : x_law_2b_k04 ⟨[a0, a1, a2, a3, a4, a5, a6, a7, .val (.str z)], st⟩ = .ok .nx ⟨[a0, a1, a2, a3, a4, a5, a6, a7, .val (.str z)], st⟩ := by
  obtain ⟨l, rfl, ha, hl, hn⟩ := h
  have e : ∀ st, m_read_ratio [.str (txt l)] st = .err (ex0 "ParseError") st := fun st => by rw [e_read ha hl, hn]
  have c : x_law_1l_k04 ⟨[a0, a1, a2, a3, a4, a5, a6, a7, .val (.str (txt l))], st⟩ = .err (ex0 "ParseError") ⟨[a0, a1, a2, a3, a4, a5, a6, a7, .val (.str (txt l))], st⟩ := by simp [X_law_1l_k04, e]
  have t := told_0 c fd_ParseError (by decide +kernel) ht ht
  have q : eqU true (.tup [.str (Str.ofString "no"), .str (Str.ofString "ParseError")]) (.tup [.str (Str.ofString "no"), .str (Str.ofString "ParseError")]) = Mi.ret (.bl false) := eq_self (n := 2) (da_t (by simp) (by
    intro u hu
    simp only [List.mem_cons, List.not_mem_nil, or_false] at hu
    rcases hu with rfl | rfl <;> exact da_s (ok_of _))) (by decide) true
  simp [X_law_2b_k04, t, q]
theorem k04_loop {st : List U} (ht : hasTb "law" st = true) : ∀ (zs : List Str) (a8 : Sl), (∀ z ∈ zs, BadT z) → ∃ o, forL (stv 8) x_law_2b_k04 (zs.map .str) ⟨[a0, a1, a2, a3, a4, a5, a6, a7, a8], st⟩ = .ok .nx ⟨[a0, a1, a2, a3, a4, a5, a6, a7, o], st⟩
  | [], a8, _ => ⟨a8, rfl⟩
  | z :: zs, a8, h => by
    obtain ⟨o, e⟩ := k04_loop ht zs (.val (.str z)) fun y hy => h y (by simp [hy])
    have o1 := fun (a0 a1 a2 a3 a4 a5 a6 a7 : Sl) => k04_one (a0 := a0) (a1 := a1) (a2 := a2) (a3 := a3) (a4 := a4) (a5 := a5) (a6 := a6) (a7 := a7) (h z (by simp)) ht
    exact ⟨o, by rw [List.map_cons, for_cons]; simp [o1, e]⟩
theorem bw_0 : BadT (Str.ofString "") := ⟨[], by decide +kernel, by decide, by decide, by decide +kernel⟩
theorem bw_1 : BadT (Str.ofString "-") := ⟨[45], by decide +kernel, by decide, by decide, by decide +kernel⟩
theorem bw_2 : BadT (Str.ofString "/") := ⟨[47], by decide +kernel, by decide, by decide, by decide +kernel⟩
theorem bw_3 : BadT (Str.ofString "1/") := ⟨[49, 47], by decide +kernel, by decide, by decide, by decide +kernel⟩
theorem bw_4 : BadT (Str.ofString "/2") := ⟨[47, 50], by decide +kernel, by decide, by decide, by decide +kernel⟩
theorem bw_5 : BadT (Str.ofString "-0") := ⟨[45, 48], by decide +kernel, by decide, by decide, by decide +kernel⟩
theorem bw_6 : BadT (Str.ofString "0/1") := ⟨[48, 47, 49], by decide +kernel, by decide, by decide, by decide +kernel⟩
theorem bw_7 : BadT (Str.ofString "00") := ⟨[48, 48], by decide +kernel, by decide, by decide, by decide +kernel⟩
theorem bw_8 : BadT (Str.ofString "01") := ⟨[48, 49], by decide +kernel, by decide, by decide, by decide +kernel⟩
theorem bw_9 : BadT (Str.ofString "+1") := ⟨[43, 49], by decide +kernel, by decide, by decide, by decide +kernel⟩
theorem bw_10 : BadT (Str.ofString "1/0") := ⟨[49, 47, 48], by decide +kernel, by decide, by decide, by decide +kernel⟩
theorem bw_11 : BadT (Str.ofString "2/4") := ⟨[50, 47, 52], by decide +kernel, by decide, by decide, by decide +kernel⟩
theorem bw_12 : BadT (Str.ofString "4/2") := ⟨[52, 47, 50], by decide +kernel, by decide, by decide, by decide +kernel⟩
theorem bw_13 : BadT (Str.ofString "1/-2") := ⟨[49, 47, 45, 50], by decide +kernel, by decide, by decide, by decide +kernel⟩
theorem bw_14 : BadT (Str.ofString "--1") := ⟨[45, 45, 49], by decide +kernel, by decide, by decide, by decide +kernel⟩
theorem bw_15 : BadT (Str.ofString "1/02") := ⟨[49, 47, 48, 50], by decide +kernel, by decide, by decide, by decide +kernel⟩
theorem bw_16 : BadT (Str.ofString "0/2") := ⟨[48, 47, 50], by decide +kernel, by decide, by decide, by decide +kernel⟩
theorem bw_17 : BadT (Str.ofString "-/3") := ⟨[45, 47, 51], by decide +kernel, by decide, by decide, by decide +kernel⟩
theorem bw_18 : BadT (Str.ofString "1.5") := ⟨[49, 46, 53], by decide +kernel, by decide, by decide, by decide +kernel⟩
theorem bw_19 : BadT (Str.ofString "a") := ⟨[97], by decide +kernel, by decide, by decide, by decide +kernel⟩
theorem bw_20 : BadT (Str.ofString "1 /2") := ⟨[49, 32, 47, 50], by decide +kernel, by decide, by decide, by decide +kernel⟩
theorem bw_21 : BadT (Str.ofString "3/3") := ⟨[51, 47, 51], by decide +kernel, by decide, by decide, by decide +kernel⟩
theorem bw_22 : BadT (Str.ofString "1/2/3") := ⟨[49, 47, 50, 47, 51], by decide +kernel, by decide, by decide, by decide +kernel⟩
theorem bw_23 : BadT (Str.ofString "-00") := ⟨[45, 48, 48], by decide +kernel, by decide, by decide, by decide +kernel⟩
theorem bw_24 : BadT (Str.ofString "5/") := ⟨[53, 47], by decide +kernel, by decide, by decide, by decide +kernel⟩
theorem l_textK {x : Rat} (h : Sz 110 x) (st : List U) : m__law_text [qU x] st = .ok (.str (rtx x)) st := by
  have g1 : x.num.natAbs.log2 < 1920 := Nat.lt_trans (log_lt (by decide) h.a) (by decide)
  have g2 : x.den.log2 < 1920 := Nat.lt_trans (log_lt (by decide) h.b) (by decide)
  have h1 := itx_len (i := x.num) (k := 110) (by decide) h.a
  have h2 := itx_len (i := (x.den : Int)) (k := 110) (by decide) h.b
  by_cases e : x.den = 1
  · have ei : ((x.den : Int) = 1) := by omega
    simp [m__law_text, b__law_text, qU, eqU_int, ei, g1, rtx, e, -str_i, -fmt_i, str_i', fmt_i']
  · have ei : ¬ ((x.den : Int) = 1) := by omega
    have k2 : (itx x.num).length + (Str.ofString "/").length ≤ sizeLine := by rw [sep_len]; exact le_line (by omega)
    have k3 : (itx x.num ++ Str.ofString "/").length + (itx (x.den : Int)).length ≤ sizeLine := by rw [ln, sep_len]; exact le_line (by omega)
    simp [m__law_text, b__law_text, qU, eqU_int, ei, g1, g2, rtx, e, k2, k3, -str_i, -fmt_i, str_i', fmt_i']
theorem e_rtN {u : Nm} (hu : u.Good) (h : Sz 110 (nmQ u)) (st : List U) : m_ratio_text [nmU u] st = .ok (.str (rtx (nmQ u))) st := by
  have c : ∀ st, m_checked [nmU u] st = .ok (.tup [.int (nmQ u).num, .int (nmQ u).den]) st := fun st => e_num hu st
  generalize nmQ u = x at c h ⊢
  have g1 : x.num.natAbs.log2 < 1920 := Nat.lt_trans (log_lt (by decide) h.a) (by decide)
  have g2 : x.den.log2 < 1920 := Nat.lt_trans (log_lt (by decide) h.b) (by decide)
  have h1 := itx_len (i := x.num) (k := 110) (by decide) h.a
  have h2 := itx_len (i := (x.den : Int)) (k := 110) (by decide) h.b
  by_cases e : x.den = 1
  · have ei : ((x.den : Int) = 1) := by omega
    rw [ei] at c
    simp [m_ratio_text, b_ratio_text, c, eqU_int, ei, g1, rtx, e, -str_i, -fmt_i, str_i', fmt_i']
  · have ei : ¬ ((x.den : Int) = 1) := by omega
    have k1 : (Str.empty ++ itx x.num).length ≤ sizeLine := by rw [empty_app]; exact le_line (by omega)
    have k2 : (itx x.num ++ Str.ofString "/").length ≤ sizeLine := by rw [ln, sep_len]; exact le_line (by omega)
    have k3 : (itx x.num ++ Str.ofString "/" ++ itx (x.den : Int)).length ≤ sizeLine := by rw [ln, ln, sep_len]; exact le_line (by omega)
    simp only [empty_app] at k1
    simp [m_ratio_text, b_ratio_text, c, eqU_int, ei, g1, g2, rtx, e, empty_app, k1, k2, k3, -str_i, -fmt_i, str_i', fmt_i']
theorem div_le {t b : Int} (h : b ≠ 0) : (Rat.divInt t b).num.natAbs ≤ t.natAbs ∧ (Rat.divInt t b).den ≤ b.natAbs := by
  refine ⟨?_, ?_⟩
  · rw [Rat.num_divInt, Int.natAbs_ediv_of_dvd (by exact Int.dvd_mul_of_dvd_right (Int.gcd_dvd_right b t)), Int.natAbs_mul, Int.natAbs_sign_of_ne_zero h]
    simp only [Int.natAbs_natCast, Nat.one_mul]
    exact Nat.div_le_self _ _
  · rw [Rat.den_divInt, if_neg h]
    exact Nat.div_le_self _ _
/-- reading back -/
theorem read_back {x : Rat} (hn : x.num.natAbs < 10 ^ 30) (hd : x.den < 10 ^ 30) (st : List U) : m_read_ratio [.str (rtx x)] st = .ok (qU x) st := by
  have l : (cT x.num x.den).length ≤ 640 := by
    have h1 := TL.numL_len (n := x.num.natAbs) (k := 30) (by decide) hn
    have h2 := TL.numL_len (n := x.den) (k := 30) (by decide) hd
    unfold cT sgn
    split <;> split <;> simp <;> omega
  rw [rtx_cT, e_read (cT_asc _ _) l, okT_cT hn hd]
theorem l_negK (x : Rat) (st : List U) : m__law_neg [qU x] st = .ok (qU (-x)) st := by
  simp [m__law_neg, b__law_neg, qU]
theorem bt_pre {x : Rat} (h : Sz 31 x) (c : Nat) (s : Str) (hs : s = txt [c]) (hc : (c ≠ 45 ∧ c ≠ 47 ∧ (c < 48 ∨ 57 < c)) ∨ c = 48) (ha : c < 128) : BadT (s ++ rtx x) := by
  have l := rtx_len (k := 31) (by decide) h
  rw [rtx_cT, txt_len] at l
  refine ⟨c :: cT x.num x.den, by rw [rtx_cT, hs, txt_app]; rfl, ?_, by rw [List.length_cons]; omega, ?_⟩
  · unfold ascL
    rw [List.all_cons, decide_eq_true ha]
    exact cT_asc _ _
  · rcases hc with hc | rfl
    · exact bad_char (c := c) (by simp) hc
    · exact bad_zero x
theorem bt_suf {x : Rat} (h : Sz 31 x) (c : Nat) (s : Str) (hs : s = txt [c]) (hc : c ≠ 45 ∧ c ≠ 47 ∧ (c < 48 ∨ 57 < c)) (ha : c < 128) : BadT (rtx x ++ s) := by
  have l := rtx_len (k := 31) (by decide) h
  rw [rtx_cT, txt_len] at l
  refine ⟨cT x.num x.den ++ [c], by rw [rtx_cT, hs, txt_app], ?_, by rw [List.length_append, List.length_singleton]; omega, bad_char (c := c) (by simp) hc⟩
  unfold ascL
  rw [List.all_append]
  have := cT_asc x.num x.den
  unfold ascL at this
  rw [this]
  simp [ha]
theorem bt_one {x : Rat} (h : Sz 31 x) : BadT (rtx x ++ Str.ofString "/1") := by
  have l := rtx_len (k := 31) (by decide) h
  rw [rtx_cT, txt_len] at l
  refine ⟨cT x.num x.den ++ [47, 49], by rw [rtx_cT, show Str.ofString "/1" = txt [47, 49] by decide +kernel, txt_app], ?_, by rw [List.length_append]; simp only [List.length_cons, List.length_nil]; omega, bad_one x⟩
  unfold ascL
  rw [List.all_append]
  have := cT_asc x.num x.den
  unfold ascL at this
  rw [this]
  decide
def Lg (k : Nat) : List Nat := 49 :: List.replicate k 48
def rdR (r : Option Rat) (st : List U) : Res (List U) U := match r with
  | some x => .ok (qU x) st
  | none => .err (ex0 "ParseError") st
theorem rd_long {l : List Nat} (ha : ascL l = true) (hl : l.length ≤ 640) {r : Option Rat} (h : okT l = r) (st : List U) : m_read_ratio [.str (txt l)] st = rdR r st := by
  subst h
  rw [e_read ha hl]
  cases okT l <;> rfl
theorem pe_eq (neg : Bool) : eqU neg (.tup [.str (Str.ofString "no"), .str (Str.ofString "ParseError")]) (.tup [.str (Str.ofString "no"), .str (Str.ofString "ParseError")]) = Mi.ret (.bl (xor neg true)) := eq_self (n := 2) (da_t (by simp) (by
    intro u hu
    simp only [List.mem_cons, List.not_mem_nil, or_false] at hu
    rcases hu with rfl | rfl <;> exact da_s (ok_of _))) (by decide) neg
theorem td_eq (neg : Bool) (a b : Int) : eqU neg (.tup [.str (Str.ofString "told"), .tup [.int a, .int b]]) (.tup [.str (Str.ofString "told"), .tup [.int a, .int b]]) = Mi.ret (.bl (xor neg true)) := eq_self (n := 3) (da_t (by simp) (by
    intro u hu
    simp only [List.mem_cons, List.not_mem_nil, or_false] at hu
    rcases hu with rfl | rfl
    · exact da_s (ok_of _)
    · exact da_t (by simp) (by
        intro u hu
        simp only [List.mem_cons, List.not_mem_nil, or_false] at hu
        rcases hu with rfl | rfl <;> exact da_i _))) (by decide) neg
theorem lg_29 : Str.ofString "1" ++ Txt.mul (Str.ofString "0") 29 = txt (Lg 29) ∧ (Str.ofString "1").length + (Txt.mul (Str.ofString "0") 29).length ≤ sizeLine ∧ (txt (Lg 29)).length = 30 ∧ Str.ofString "1/" ++ txt (Lg 29) = txt (49 :: 47 :: Lg 29) ∧ (Str.ofString "1/").length + (txt (Lg 29)).length ≤ sizeLine := ⟨by decide +kernel, by decide +kernel, by decide +kernel, by decide +kernel, by decide +kernel⟩
theorem lg_30 : Str.ofString "1" ++ Txt.mul (Str.ofString "0") 30 = txt (Lg 30) ∧ (Str.ofString "1").length + (Txt.mul (Str.ofString "0") 30).length ≤ sizeLine ∧ (txt (Lg 30)).length = 31 ∧ Str.ofString "1/" ++ txt (Lg 30) = txt (49 :: 47 :: Lg 30) ∧ (Str.ofString "1/").length + (txt (Lg 30)).length ≤ sizeLine := ⟨by decide +kernel, by decide +kernel, by decide +kernel, by decide +kernel, by decide +kernel⟩
theorem lg_31 : Str.ofString "1" ++ Txt.mul (Str.ofString "0") 31 = txt (Lg 31) ∧ (Str.ofString "1").length + (Txt.mul (Str.ofString "0") 31).length ≤ sizeLine ∧ (txt (Lg 31)).length = 32 ∧ Str.ofString "1/" ++ txt (Lg 31) = txt (49 :: 47 :: Lg 31) ∧ (Str.ofString "1/").length + (txt (Lg 31)).length ≤ sizeLine := ⟨by decide +kernel, by decide +kernel, by decide +kernel, by decide +kernel, by decide +kernel⟩
theorem rd_29 (st : List U) : m_read_ratio [.str (txt (Lg 29))] st = .ok (.tup [.int 100000000000000000000000000000, .int 1]) st := (rd_long (l := Lg 29) (r := some ((100000000000000000000000000000 : Int) : Rat)) (by decide +kernel) (by decide) (by decide +kernel) st).trans rfl
theorem rd_29' (st : List U) : m_read_ratio [.str (txt (49 :: 47 :: Lg 29))] st = .ok (.tup [.int 1, .int 100000000000000000000000000000]) st := (rd_long (l := 49 :: 47 :: Lg 29) (r := some (Rat.divInt 1 100000000000000000000000000000)) (by decide +kernel) (by decide) (by decide +kernel) st).trans (by
  show Res.ok (qU (Rat.divInt 1 100000000000000000000000000000)) st = _
  rw [qU_def, show (Rat.divInt 1 100000000000000000000000000000).num = 1 by decide +kernel, show (Rat.divInt 1 100000000000000000000000000000).den = 100000000000000000000000000000 by decide +kernel]; rfl)
theorem rd_30 (st : List U) : m_read_ratio [.str (txt (Lg 30))] st = .err (ex0 "ParseError") st := rd_long (l := Lg 30) (r := none) (by decide +kernel) (by decide) (by decide +kernel) st
theorem rd_30' (st : List U) : m_read_ratio [.str (txt (49 :: 47 :: Lg 30))] st = .err (ex0 "ParseError") st := rd_long (l := 49 :: 47 :: Lg 30) (r := none) (by decide +kernel) (by decide) (by decide +kernel) st
theorem rd_31 (st : List U) : m_read_ratio [.str (txt (Lg 31))] st = .err (ex0 "ParseError") st := rd_long (l := Lg 31) (r := none) (by decide +kernel) (by decide) (by decide +kernel) st
theorem rd_31' (st : List U) : m_read_ratio [.str (txt (49 :: 47 :: Lg 31))] st = .err (ex0 "ParseError") st := rd_long (l := 49 :: 47 :: Lg 31) (r := none) (by decide +kernel) (by decide) (by decide +kernel) st
theorem law_k04 (ns : List Int) (hn : ns.length ≤ 63) : ∃ st, m_law_k04 [.kl (ns.map .int)] [.tbl "law"] = .ok (.bl true) st := by
  obtain ⟨b, e0, hb⟩ := d_begin ns hn
  obtain ⟨x, b1, e1, hx, hb1⟩ := d_number hb []
  have et := fun st => l_text hx st
  obtain ⟨u, b2, e2, hux, hu, hb2⟩ := d_spelled hb1 (hx.mono (by decide)) []
  have x110 : Sz 110 x := hx.mono (by decide)
  have er := fun st => e_rtN hu (by rw [hux]; exact x110) st
  rw [hux] at er
  have rb := fun st => read_back (x := x) (Nat.lt_trans hx.a (by decide)) (Nat.lt_trans hx.b (by decide)) st
  have lk := l_like 6 (.lst [.str (rtx x), qU x]) 
  have lk := fun st => lk st (da_l (by simp) (by
    intro u hu
    simp only [List.mem_cons, List.not_mem_nil, or_false] at hu
    rcases hu with rfl | rfl
    · exact da_s (ok_rtx _)
    · exact da_q _))
  obtain ⟨v1, b3, e3, l3, u3, hb3⟩ := d_draw hb2 5 (by decide) []
  obtain ⟨v2, b4, e4, l4, u4, hb4⟩ := d_draw hb3 1000000000 (by decide) []
  have hne : (100000000000000000000000000000 : Int) + v2 ≠ 0 := by omega
  have eq_ := fun st => l_q ((999999999999999999999999999999 : Int) - v1) (100000000000000000000000000000 + v2) st hne (Nat.lt_of_lt_of_le (show ((100000000000000000000000000000 : Int) + v2).natAbs < 2 ^ 110 by omega) (Nat.pow_le_pow_right (by decide) (by decide)))
  have dl := div_le (t := (999999999999999999999999999999 : Int) - v1) hne
  generalize hy : Rat.divInt ((999999999999999999999999999999 : Int) - v1) (100000000000000000000000000000 + v2) = y at eq_ dl
  have yn : y.num.natAbs < 10 ^ 30 := by
    have : ((999999999999999999999999999999 : Int) - v1).natAbs < 10 ^ 30 := by
      have : (10 : Nat) ^ 30 = 1000000000000000000000000000000 := by decide
      omega
    omega
  have yd : y.den < 10 ^ 30 := by
    have : ((100000000000000000000000000000 : Int) + v2).natAbs < 10 ^ 30 := by
      have : (10 : Nat) ^ 30 = 1000000000000000000000000000000 := by decide
      omega
    omega
  have y110 : Sz 110 y := ⟨Nat.lt_trans yn (by decide), Nat.lt_trans yd (by decide)⟩
  have ey := fun st => l_textK y110 st
  have eny := fun st => l_textK y110.neg st
  have ry := fun st => read_back yn yd st
  have rny := fun st => read_back (x := -y) (by rw [Rat.neg_num, Int.natAbs_neg]; exact yn) (by rw [Rat.neg_den]; exact yd) st
  have qy : ∀ z : Rat, eqU true (qU z) (qU z) = Mi.ret (.bl false) := fun z => by rw [e_q]; simp
  obtain ⟨v3, b5, e5, l5, u5, hb5⟩ := d_draw hb4 3 (by decide) []
  have ht := tb_box hb5
  have p30 : (10 : Int) ^ (30 : Int).toNat = 1000000000000000000000000000000 := by decide
  have p29 : (10 : Int) ^ (29 : Int).toNat = 100000000000000000000000000000 := by decide
  have p9 : (10 : Int) ^ (9 : Int).toNat = 1000000000 := by decide
  have cq : ∀ (z : Rat) s, ct (qU z) s = .ok (qU z) s := fun _ _ => rfl
  have rl := rtx_len (k := 31) (by decide) hx
  have zs : ∀ z ∈ ([Str.ofString "", Str.ofString "-", Str.ofString "/", Str.ofString "1/", Str.ofString "/2", Str.ofString "-0", Str.ofString "0/1", Str.ofString "00", Str.ofString "01", Str.ofString "+1", Str.ofString "1/0", Str.ofString "2/4", Str.ofString "4/2", Str.ofString "1/-2", Str.ofString "--1", Str.ofString "1/02", Str.ofString "0/2", Str.ofString "-/3", Str.ofString "1.5", Str.ofString "a", Str.ofString " " ++ rtx x, rtx x ++ Str.ofString " ", rtx x ++ Str.ofString "/1", Str.ofString "0" ++ rtx x, rtx x ++ Str.ofString "x", Str.ofString "5/", Str.ofString "1 /2", Str.ofString "3/3", Str.ofString "1/2/3", Str.ofString "-00"] : List Str), BadT z := by
    intro z hz
    simp only [List.mem_cons, List.not_mem_nil, or_false] at hz
    rcases hz with rfl | rfl | rfl | rfl | rfl | rfl | rfl | rfl | rfl | rfl | rfl | rfl | rfl | rfl | rfl | rfl | rfl | rfl | rfl | rfl | rfl | rfl | rfl | rfl | rfl | rfl | rfl | rfl | rfl | rfl
    · exact bw_0
    · exact bw_1
    · exact bw_2
    · exact bw_3
    · exact bw_4
    · exact bw_5
    · exact bw_6
    · exact bw_7
    · exact bw_8
    · exact bw_9
    · exact bw_10
    · exact bw_11
    · exact bw_12
    · exact bw_13
    · exact bw_14
    · exact bw_15
    · exact bw_16
    · exact bw_17
    · exact bw_18
    · exact bw_19
    · exact bt_pre hx 32 _ (by decide +kernel) (.inl (by decide)) (by decide)
    · exact bt_suf hx 32 _ (by decide +kernel) (by decide) (by decide)
    · exact bt_one hx
    · exact bt_pre hx 48 _ (by decide +kernel) (.inr rfl) (by decide)
    · exact bt_suf hx 120 _ (by decide +kernel) (by decide) (by decide)
    · exact bw_24
    · exact bw_20
    · exact bw_21
    · exact bw_22
    · exact bw_23
  have bnd : ∀ n, n ≤ 1000 → n ≤ sizeLine := fun n h => le_line (by omega)
  have ls : (Str.ofString " ").length = 1 ∧ (Str.ofString "/1").length = 2 ∧ (Str.ofString "0").length = 1 ∧ (Str.ofString "x").length = 1 ∧ (Str.ofString "5").length = 1 ∧ (Str.ofString "/").length = 1 := ⟨by decide +kernel, by decide +kernel, by decide +kernel, by decide +kernel, by decide +kernel, by decide +kernel⟩
  have k1 : (Str.ofString " ").length + (rtx x).length ≤ sizeLine := bnd _ (by omega)
  have k2 : (rtx x).length + (Str.ofString " ").length ≤ sizeLine := bnd _ (by omega)
  have k3 : (rtx x).length + (Str.ofString "/1").length ≤ sizeLine := bnd _ (by omega)
  have k4 : (Str.ofString "0").length + (rtx x).length ≤ sizeLine := bnd _ (by omega)
  have k5 : (rtx x).length + (Str.ofString "x").length ≤ sizeLine := bnd _ (by omega)
  have k6 : (rtx x).length ≤ sizeLine := bnd _ (by omega)
  have c0 : L2.cutS (rtx x) none (some 0) = Str.ofString "" := by
    rw [rtx_cT]
    unfold L2.cutS
    rw [HT.sIx_none, show HT.sIx (txt (cT x.num x.den)).length (txt (cT x.num x.den)).length (some 0) = 0 by
      have := HT.sIx_nat (txt (cT x.num x.den)).length (txt (cT x.num x.den)).length 0
      rw [show ((0 : Nat) : Int) = 0 from rfl] at this
      rw [this]; omega]
    show (⟨(List.take 0 _).toArray⟩ : Str) = _
    rw [List.take_zero]; decide +kernel
  have s5 : Str.ofString "5" ++ Str.ofString "" = Str.ofString "5" ∧ Str.ofString "5" ++ Str.ofString "/" = Str.ofString "5/" ∧ (Str.ofString "5").length + (Str.ofString "").length ≤ sizeLine ∧ (Str.ofString "5").length + (Str.ofString "/").length ≤ sizeLine := ⟨by decide +kernel, by decide +kernel, by decide +kernel, by decide +kernel⟩
  obtain ⟨s51, s52, s53, s54⟩ := s5
  have mS : ∀ (a : Str) (k : Int), mulU (.str a) (.int k) = when (decide (0 ≤ k) && decide (k < 1000) && decide (a.length ≤ 1000)) (Mi.ret (.str (Txt.mul a k))) := fun _ _ => rfl
  have l0 : (Str.ofString "0").length ≤ 1000 := by decide +kernel
  obtain rfl | rfl | rfl : v3 = 0 ∨ v3 = 1 ∨ v3 = 2 := by omega
  · obtain ⟨g1, g2, g3, g4, g5⟩ := lg_29
    have T4 : ∀ a0 a1 a2 a3 a4 a5 a6 a8 : Sl, toldM (arF 1 [] m__law_field) okcL (Str.ofString "law") x_law_4l_k04 ⟨[a0, a1, a2, a3, a4, a5, a6, .val (.str (txt (Lg 29))), a8], [.tbl (Str.ofString "law"), b5]⟩ = .ok (.tup [.str (Str.ofString "told"), .tup [.int 100000000000000000000000000000, .int 1]]) ⟨[a0, a1, a2, a3, a4, a5, a6, .val (.str (txt (Lg 29))), a8], [.tbl (Str.ofString "law"), b5]⟩ := fun a0 a1 a2 a3 a4 a5 a6 a8 => told_ok (by simp [X_law_4l_k04, rd_29]) ht
    have T3 : ∀ a0 a1 a2 a3 a4 a5 a6 a8 : Sl, toldM (arF 1 [] m__law_field) okcL (Str.ofString "law") x_law_3l_k04 ⟨[a0, a1, a2, a3, a4, a5, a6, .val (.str (txt (Lg 29))), a8], [.tbl (Str.ofString "law"), b5]⟩ = .ok (.tup [.str (Str.ofString "told"), .tup [.int 1, .int 100000000000000000000000000000]]) ⟨[a0, a1, a2, a3, a4, a5, a6, .val (.str (txt (Lg 29))), a8], [.tbl (Str.ofString "law"), b5]⟩ := fun a0 a1 a2 a3 a4 a5 a6 a8 => told_ok (by simp [X_law_3l_k04, g4, g5, rd_29']) ht
    obtain ⟨o8, wr⟩ := k04_loop ht [Str.ofString "", Str.ofString "-", Str.ofString "/", Str.ofString "1/", Str.ofString "/2", Str.ofString "-0", Str.ofString "0/1", Str.ofString "00", Str.ofString "01", Str.ofString "+1", Str.ofString "1/0", Str.ofString "2/4", Str.ofString "4/2", Str.ofString "1/-2", Str.ofString "--1", Str.ofString "1/02", Str.ofString "0/2", Str.ofString "-/3", Str.ofString "1.5", Str.ofString "a", Str.ofString " " ++ rtx x, rtx x ++ Str.ofString " ", rtx x ++ Str.ofString "/1", Str.ofString "0" ++ rtx x, rtx x ++ Str.ofString "x", Str.ofString "5/", Str.ofString "1 /2", Str.ofString "3/3", Str.ofString "1/2/3", Str.ofString "-00"] .no zs (a0 := .val (.kl (ns.map .int))) (a1 := .val (.ref 1)) (a2 := .val (qU x)) (a3 := .val (.str (rtx x))) (a4 := .val (qU y)) (a5 := .val (.tup [.str (Str.ofString "told"), .tup [.int 1, .int 100000000000000000000000000000]])) (a6 := .val (.lst ([Str.ofString "", Str.ofString "-", Str.ofString "/", Str.ofString "1/", Str.ofString "/2", Str.ofString "-0", Str.ofString "0/1", Str.ofString "00", Str.ofString "01", Str.ofString "+1", Str.ofString "1/0", Str.ofString "2/4", Str.ofString "4/2", Str.ofString "1/-2", Str.ofString "--1", Str.ofString "1/02", Str.ofString "0/2", Str.ofString "-/3", Str.ofString "1.5", Str.ofString "a", Str.ofString " " ++ rtx x, rtx x ++ Str.ofString " ", rtx x ++ Str.ofString "/1", Str.ofString "0" ++ rtx x, rtx x ++ Str.ofString "x", Str.ofString "5/", Str.ofString "1 /2", Str.ofString "3/3", Str.ofString "1/2/3", Str.ofString "-00"].map .str))) (a7 := .val (.str (txt (Lg 29))))
    simp only [List.map_cons, List.map_nil] at wr
    refine ⟨[.tbl (Str.ofString "law"), b5], ?_⟩
    unfold m_law_k04 b_law_k04
    rw [mkF_s]
    simp [e0, e1, et, e2, er, rb, lk, e3, e4, p30, p29, p9, eq_, ey, ry, eny, rny, l_negK, qy, cq, e5, mS, l0, g1, g2, g3, T4, T3, td_eq, pe_eq, eqU_int, k1, k2, k3, k4, k5, k6, c0, s51, s52, s53, s54, X_law_2_k04, wr]
  · obtain ⟨g1, g2, g3, g4, g5⟩ := lg_30
    have T4 : ∀ a0 a1 a2 a3 a4 a5 a6 a8 : Sl, toldM (arF 1 [] m__law_field) okcL (Str.ofString "law") x_law_4l_k04 ⟨[a0, a1, a2, a3, a4, a5, a6, .val (.str (txt (Lg 30))), a8], [.tbl (Str.ofString "law"), b5]⟩ = .ok (.tup [.str (Str.ofString "no"), .str (Str.ofString "ParseError")]) ⟨[a0, a1, a2, a3, a4, a5, a6, .val (.str (txt (Lg 30))), a8], [.tbl (Str.ofString "law"), b5]⟩ := fun a0 a1 a2 a3 a4 a5 a6 a8 => told_0 (c := Str.ofString "ParseError") (by simp [X_law_4l_k04, rd_30]) fd_ParseError (by decide +kernel) ht ht
    have T3 : ∀ a0 a1 a2 a3 a4 a5 a6 a8 : Sl, toldM (arF 1 [] m__law_field) okcL (Str.ofString "law") x_law_3l_k04 ⟨[a0, a1, a2, a3, a4, a5, a6, .val (.str (txt (Lg 30))), a8], [.tbl (Str.ofString "law"), b5]⟩ = .ok (.tup [.str (Str.ofString "no"), .str (Str.ofString "ParseError")]) ⟨[a0, a1, a2, a3, a4, a5, a6, .val (.str (txt (Lg 30))), a8], [.tbl (Str.ofString "law"), b5]⟩ := fun a0 a1 a2 a3 a4 a5 a6 a8 => told_0 (c := Str.ofString "ParseError") (by simp [X_law_3l_k04, g4, g5, rd_30']) fd_ParseError (by decide +kernel) ht ht
    obtain ⟨o8, wr⟩ := k04_loop ht [Str.ofString "", Str.ofString "-", Str.ofString "/", Str.ofString "1/", Str.ofString "/2", Str.ofString "-0", Str.ofString "0/1", Str.ofString "00", Str.ofString "01", Str.ofString "+1", Str.ofString "1/0", Str.ofString "2/4", Str.ofString "4/2", Str.ofString "1/-2", Str.ofString "--1", Str.ofString "1/02", Str.ofString "0/2", Str.ofString "-/3", Str.ofString "1.5", Str.ofString "a", Str.ofString " " ++ rtx x, rtx x ++ Str.ofString " ", rtx x ++ Str.ofString "/1", Str.ofString "0" ++ rtx x, rtx x ++ Str.ofString "x", Str.ofString "5/", Str.ofString "1 /2", Str.ofString "3/3", Str.ofString "1/2/3", Str.ofString "-00"] .no zs (a0 := .val (.kl (ns.map .int))) (a1 := .val (.ref 1)) (a2 := .val (qU x)) (a3 := .val (.str (rtx x))) (a4 := .val (qU y)) (a5 := .val (.tup [.str (Str.ofString "no"), .str (Str.ofString "ParseError")])) (a6 := .val (.lst ([Str.ofString "", Str.ofString "-", Str.ofString "/", Str.ofString "1/", Str.ofString "/2", Str.ofString "-0", Str.ofString "0/1", Str.ofString "00", Str.ofString "01", Str.ofString "+1", Str.ofString "1/0", Str.ofString "2/4", Str.ofString "4/2", Str.ofString "1/-2", Str.ofString "--1", Str.ofString "1/02", Str.ofString "0/2", Str.ofString "-/3", Str.ofString "1.5", Str.ofString "a", Str.ofString " " ++ rtx x, rtx x ++ Str.ofString " ", rtx x ++ Str.ofString "/1", Str.ofString "0" ++ rtx x, rtx x ++ Str.ofString "x", Str.ofString "5/", Str.ofString "1 /2", Str.ofString "3/3", Str.ofString "1/2/3", Str.ofString "-00"].map .str))) (a7 := .val (.str (txt (Lg 30))))
    simp only [List.map_cons, List.map_nil] at wr
    refine ⟨[.tbl (Str.ofString "law"), b5], ?_⟩
    unfold m_law_k04 b_law_k04
    rw [mkF_s]
    simp [e0, e1, et, e2, er, rb, lk, e3, e4, p30, p29, p9, eq_, ey, ry, eny, rny, l_negK, qy, cq, e5, mS, l0, g1, g2, g3, T4, T3, td_eq, pe_eq, eqU_int, k1, k2, k3, k4, k5, k6, c0, s51, s52, s53, s54, X_law_2_k04, wr]
  · obtain ⟨g1, g2, g3, g4, g5⟩ := lg_31
    have T4 : ∀ a0 a1 a2 a3 a4 a5 a6 a8 : Sl, toldM (arF 1 [] m__law_field) okcL (Str.ofString "law") x_law_4l_k04 ⟨[a0, a1, a2, a3, a4, a5, a6, .val (.str (txt (Lg 31))), a8], [.tbl (Str.ofString "law"), b5]⟩ = .ok (.tup [.str (Str.ofString "no"), .str (Str.ofString "ParseError")]) ⟨[a0, a1, a2, a3, a4, a5, a6, .val (.str (txt (Lg 31))), a8], [.tbl (Str.ofString "law"), b5]⟩ := fun a0 a1 a2 a3 a4 a5 a6 a8 => told_0 (c := Str.ofString "ParseError") (by simp [X_law_4l_k04, rd_31]) fd_ParseError (by decide +kernel) ht ht
    have T3 : ∀ a0 a1 a2 a3 a4 a5 a6 a8 : Sl, toldM (arF 1 [] m__law_field) okcL (Str.ofString "law") x_law_3l_k04 ⟨[a0, a1, a2, a3, a4, a5, a6, .val (.str (txt (Lg 31))), a8], [.tbl (Str.ofString "law"), b5]⟩ = .ok (.tup [.str (Str.ofString "no"), .str (Str.ofString "ParseError")]) ⟨[a0, a1, a2, a3, a4, a5, a6, .val (.str (txt (Lg 31))), a8], [.tbl (Str.ofString "law"), b5]⟩ := fun a0 a1 a2 a3 a4 a5 a6 a8 => told_0 (c := Str.ofString "ParseError") (by simp [X_law_3l_k04, g4, g5, rd_31']) fd_ParseError (by decide +kernel) ht ht
    obtain ⟨o8, wr⟩ := k04_loop ht [Str.ofString "", Str.ofString "-", Str.ofString "/", Str.ofString "1/", Str.ofString "/2", Str.ofString "-0", Str.ofString "0/1", Str.ofString "00", Str.ofString "01", Str.ofString "+1", Str.ofString "1/0", Str.ofString "2/4", Str.ofString "4/2", Str.ofString "1/-2", Str.ofString "--1", Str.ofString "1/02", Str.ofString "0/2", Str.ofString "-/3", Str.ofString "1.5", Str.ofString "a", Str.ofString " " ++ rtx x, rtx x ++ Str.ofString " ", rtx x ++ Str.ofString "/1", Str.ofString "0" ++ rtx x, rtx x ++ Str.ofString "x", Str.ofString "5/", Str.ofString "1 /2", Str.ofString "3/3", Str.ofString "1/2/3", Str.ofString "-00"] .no zs (a0 := .val (.kl (ns.map .int))) (a1 := .val (.ref 1)) (a2 := .val (qU x)) (a3 := .val (.str (rtx x))) (a4 := .val (qU y)) (a5 := .val (.tup [.str (Str.ofString "no"), .str (Str.ofString "ParseError")])) (a6 := .val (.lst ([Str.ofString "", Str.ofString "-", Str.ofString "/", Str.ofString "1/", Str.ofString "/2", Str.ofString "-0", Str.ofString "0/1", Str.ofString "00", Str.ofString "01", Str.ofString "+1", Str.ofString "1/0", Str.ofString "2/4", Str.ofString "4/2", Str.ofString "1/-2", Str.ofString "--1", Str.ofString "1/02", Str.ofString "0/2", Str.ofString "-/3", Str.ofString "1.5", Str.ofString "a", Str.ofString " " ++ rtx x, rtx x ++ Str.ofString " ", rtx x ++ Str.ofString "/1", Str.ofString "0" ++ rtx x, rtx x ++ Str.ofString "x", Str.ofString "5/", Str.ofString "1 /2", Str.ofString "3/3", Str.ofString "1/2/3", Str.ofString "-00"].map .str))) (a7 := .val (.str (txt (Lg 31))))
    simp only [List.map_cons, List.map_nil] at wr
    refine ⟨[.tbl (Str.ofString "law"), b5], ?_⟩
    unfold m_law_k04 b_law_k04
    rw [mkF_s]
    simp [e0, e1, et, e2, er, rb, lk, e3, e4, p30, p29, p9, eq_, ey, ry, eny, rny, l_negK, qy, cq, e5, mS, l0, g1, g2, g3, T4, T3, td_eq, pe_eq, eqU_int, k1, k2, k3, k4, k5, k6, c0, s51, s52, s53, s54, X_law_2_k04, wr]
end Br

namespace Br
open PySem PySem.Spec PyProof.Rows L2 Mi
def dU0 : DefU := ⟨fun K => (He.ga K "_law_field"), "_law_field", "_law_field", defArgs s__law_field, defBody s__law_field, defScope s__law_field, [], [], []⟩
def dU1 : DefU := ⟨fun K => (He.ga K "_law_told"), "_law_told", "_law_told", defArgs s__law_told, defBody s__law_told, defScope s__law_told, [], [], []⟩
def dU2 : DefU := ⟨fun K => (He.ga K "common"), "common", "common", defArgs s_common, defBody s_common, defScope s_common, [], [], []⟩
def dU3 : DefU := ⟨fun K => (He.ga K "ratio"), "ratio", "ratio", defArgs s_ratio, defBody s_ratio, defScope s_ratio, [.int 1], [], []⟩
def dU4 : DefU := ⟨fun K => (He.ga K "checked"), "checked", "checked", defArgs s_checked, defBody s_checked, defScope s_checked, [], [], []⟩
def dU5 : DefU := ⟨fun K => (He.ga K "ratio_text"), "ratio_text", "ratio_text", defArgs s_ratio_text, defBody s_ratio_text, defScope s_ratio_text, [], [], []⟩
def dU6 : DefU := ⟨fun K => (He.ga K "is_digits"), "is_digits", "is_digits", defArgs s_is_digits, defBody s_is_digits, defScope s_is_digits, [], [], []⟩
def dU7 : DefU := ⟨fun K => (He.ga K "read_ratio"), "read_ratio", "read_ratio", defArgs s_read_ratio, defBody s_read_ratio, defScope s_read_ratio, [], [], []⟩
def dU8 : DefU := ⟨fun K => (He.ga K "_law_draw"), "_law_draw", "_law_draw", defArgs s__law_draw, defBody s__law_draw, defScope s__law_draw, [], [], []⟩
def dU9 : DefU := ⟨fun K => (He.ga K "_law_text"), "_law_text", "_law_text", defArgs s__law_text, defBody s__law_text, defScope s__law_text, [], [], []⟩
def dU10 : DefU := ⟨fun K => (He.ga K "_law_neg"), "_law_neg", "_law_neg", defArgs s__law_neg, defBody s__law_neg, defScope s__law_neg, [], [], []⟩
def dU11 : DefU := ⟨fun K => (He.ga K "_law_q"), "_law_q", "_law_q", defArgs s__law_q, defBody s__law_q, defScope s__law_q, [], [], []⟩
def dU12 : DefU := ⟨fun K => (He.ga K "_law_like"), "_law_like", "_law_like", defArgs s__law_like, defBody s__law_like, defScope s__law_like, [], [], []⟩
def dU13 : DefU := ⟨fun K => (He.ga K "_law_spelled"), "_law_spelled", "_law_spelled", defArgs s__law_spelled, defBody s__law_spelled, defScope s__law_spelled, [], [], []⟩
def dU14 : DefU := ⟨fun K => (He.ga K "_law_small"), "_law_small", "_law_small", defArgs s__law_small, defBody s__law_small, defScope s__law_small, [], [], []⟩
def dU15 : DefU := ⟨fun K => (He.ga K "_law_number"), "_law_number", "_law_number", defArgs s__law_number, defBody s__law_number, defScope s__law_number, [], [], []⟩
def dU16 : DefU := ⟨fun K => (He.ga K "_law_begin"), "_law_begin", "_law_begin", defArgs s__law_begin, defBody s__law_begin, defScope s__law_begin, [], [], []⟩
def dU17 : DefU := ⟨fun K => (He.ga K "law"), "law", "law", defArgs s_law, defBody s_law, defScope s_law, [], [], []⟩
def dU18 : DefU := ⟨fun K => He.ma K (He.ga K "InvalidNumber") "__init__", "__init__", "InvalidNumber.__init__", defArgs s_InvalidNumber___init__, defBody s_InvalidNumber___init__, defScope s_InvalidNumber___init__, [], [], ["__class__"]⟩
def dU19 : DefU := ⟨fun K => He.ma K (He.ga K "ParseError") "__init__", "__init__", "ParseError.__init__", defArgs s_ParseError___init__, defBody s_ParseError___init__, defScope s_ParseError___init__, [], [], ["__class__"]⟩
def dU20 : DefU := ⟨fun K => He.ma K (He.ga K "ZeroDivisor") "__init__", "__init__", "ZeroDivisor.__init__", defArgs s_ZeroDivisor___init__, defBody s_ZeroDivisor___init__, defScope s_ZeroDivisor___init__, [], [], ["__class__"]⟩
def fnL : List DefU := [dU0, dU1, dU2, dU3, dU4, dU5, dU6, dU7, dU8, dU9, dU10, dU11, dU12, dU13, dU14, dU15, dU16, dU17, dU18, dU19, dU20]
def own0 : List (PySem.W.Frag → Bool) := [fun K => (He.Fa.glo "_law_field").ok K,
  fun K => (He.Fa.keep "_law_field").ok K,
  fun K => (He.Fa.glo "_law_told").ok K,
  fun K => (He.Fa.keep "_law_told").ok K,
  fun K => (He.Fa.glo "common").ok K,
  fun K => (He.Fa.keep "common").ok K,
  fun K => (He.Fa.glo "ratio").ok K,
  fun K => (He.Fa.keep "ratio").ok K,
  fun K => (He.Fa.glo "checked").ok K,
  fun K => (He.Fa.keep "checked").ok K,
  fun K => (He.Fa.glo "ratio_text").ok K,
  fun K => (He.Fa.keep "ratio_text").ok K,
  fun K => (He.Fa.glo "is_digits").ok K,
  fun K => (He.Fa.keep "is_digits").ok K,
  fun K => (He.Fa.glo "read_ratio").ok K,
  fun K => (He.Fa.keep "read_ratio").ok K,
  fun K => (He.Fa.glo "_law_draw").ok K,
  fun K => (He.Fa.keep "_law_draw").ok K,
  fun K => (He.Fa.glo "_law_text").ok K,
  fun K => (He.Fa.keep "_law_text").ok K,
  fun K => (He.Fa.glo "_law_neg").ok K,
  fun K => (He.Fa.keep "_law_neg").ok K,
  fun K => (He.Fa.glo "_law_q").ok K,
  fun K => (He.Fa.keep "_law_q").ok K,
  fun K => (He.Fa.glo "_law_like").ok K,
  fun K => (He.Fa.keep "_law_like").ok K,
  fun K => (He.Fa.glo "_law_spelled").ok K,
  fun K => (He.Fa.keep "_law_spelled").ok K,
  fun K => (He.Fa.glo "_law_small").ok K,
  fun K => (He.Fa.keep "_law_small").ok K,
  fun K => (He.Fa.glo "_law_number").ok K,
  fun K => (He.Fa.keep "_law_number").ok K,
  fun K => (He.Fa.glo "_law_begin").ok K,
  fun K => (He.Fa.keep "_law_begin").ok K,
  fun K => (He.Fa.glo "law").ok K,
  fun K => (He.Fa.keep "law").ok K,
  fun K => (He.Fa.free "abs").ok K,
  fun K => (He.Fa.free "all").ok K,
  fun K => (He.Fa.free "bool").ok K,
  fun K => (He.Fa.free "int").ok K]
def own1 : List (PySem.W.Frag → Bool) := [fun K => (He.Fa.free "isinstance").ok K,
  fun K => (He.Fa.free "len").ok K,
  fun K => (He.Fa.free "list").ok K,
  fun K => (He.Fa.free "range").ok K,
  fun K => (He.Fa.free "str").ok K,
  fun K => (He.Fa.free "tuple").ok K,
  fun K => (He.Fa.glo "BrimError").ok K,
  fun K => (He.Fa.glo "InvalidNumber").ok K,
  fun K => (He.Fa.glo "NothingLeft").ok K,
  fun K => (He.Fa.glo "ParseError").ok K,
  fun K => (He.Fa.glo "UnknownCell").ok K,
  fun K => (He.Fa.glo "UnknownName").ok K,
  fun K => (He.Fa.glo "ZeroDivisor").ok K,
  fun K => (He.Fa.int "MOST_DIGITS" 30).ok K,
  fun K => Mx.exB .ve "InvalidNumber" ["code", "given"] PP.main.file K,
  fun K => (He.Fa.free "super").ok K,
  fun K => Mx.exB .ve "ParseError" ["code"] PP.main.file K,
  fun K => Mx.exB .ve "ZeroDivisor" ["code"] PP.main.file K,
  xB "InvalidNumber" ["code", "given"],
  xB "ZeroDivisor" ["code"],
  fun K => (He.Fa.free "InvalidCell").ok K,
  fun K => (He.Fa.free "DuplicateCell").ok K,
  fun K => (He.Fa.free "OtherCells").ok K,
  fun K => (He.Fa.free "InvalidCells").ok K,
  fun K => (He.Fa.free "InvalidWeight").ok K,
  fun K => (He.Fa.free "InvalidFloor").ok K,
  fun K => (He.Fa.free "InvalidBrim").ok K,
  fun K => (He.Fa.free "InvalidConstant").ok K,
  fun K => (He.Fa.free "InvalidBounds").ok K,
  fun K => (He.Fa.free "TooMany").ok K,
  fun K => (He.Fa.free "TooFew").ok K,
  fun K => (He.Fa.free "NotBounded").ok K,
  fun K => (He.Fa.free "NotOpen").ok K,
  fun K => (He.Fa.free "OutOfBounds").ok K,
  fun K => (He.Fa.free "InvalidStanding").ok K,
  fun K => (He.Fa.free "Unsure").ok K,
  fun K => (He.Fa.free "NotTurned").ok K,
  fun K => (He.Fa.free "InvalidWidth").ok K,
  fun K => (He.Fa.free "InvalidSigns").ok K,
  fun K => (He.Fa.free "InvalidShare").ok K]
def own2 : List (PySem.W.Frag → Bool) := [fun K => (He.Fa.free "NotPositive").ok K,
  fun K => (He.Fa.free "Calm").ok K,
  fun K => (He.Fa.free "InvalidKept").ok K,
  fun K => (He.Fa.free "InvalidAge").ok K,
  fun K => (He.Fa.free "Singular").ok K,
  fun K => (He.Fa.free "InvalidAction").ok K,
  fun K => (He.Fa.free "InvalidName").ok K,
  fun K => (He.Fa.free "DuplicateName").ok K,
  fun K => (He.Fa.free "WrongKind").ok K,
  fun K => (He.Fa.free "CapacityExceeded").ok K,
  fun K => (He.Fa.free "InvalidLimit").ok K,
  fun K => (He.Fa.free "InvalidCommand").ok K,
  xB "ParseError" ["code"],
  xB "UnknownCell" ["code", "cell"],
  xB "UnknownName" ["code", "name"],
  xB "NothingLeft" ["code"],
  hitB "InvalidNumber",
  hitB "ZeroDivisor",
  hitB "ParseError",
  hitB "UnknownCell",
  hitB "UnknownName",
  hitB "NothingLeft",
  fun K => (He.Fa.free "Point").ok K,
  fun K => (He.Fa.free "Net").ok K,
  tabB "law"]
def ownL : List (PySem.W.Frag → Bool) := own0 ++ own1 ++ own2
theorem facts_of {K : PySem.W.Frag} {h : Heap} {mg : Str → Option Value} (Y : K.In h) (N : h.Ns mainGlobals mg) (c : SaysU ownL fnL K) : Facts PP ⟨K, mg⟩ where
  d__law_field := c.def_ 0 (d := dU0) rfl
  g__law_field := He.glo_ok Y N (c.fact 0)
  k__law_field := He.keep_ok (c.fact 1)
  d__law_told := c.def_ 1 (d := dU1) rfl
  g__law_told := He.glo_ok Y N (c.fact 2)
  k__law_told := He.keep_ok (c.fact 3)
  d_common := c.def_ 2 (d := dU2) rfl
  g_common := He.glo_ok Y N (c.fact 4)
  k_common := He.keep_ok (c.fact 5)
  d_ratio := c.def_ 3 (d := dU3) rfl
  g_ratio := He.glo_ok Y N (c.fact 6)
  k_ratio := He.keep_ok (c.fact 7)
  d_checked := c.def_ 4 (d := dU4) rfl
  g_checked := He.glo_ok Y N (c.fact 8)
  k_checked := He.keep_ok (c.fact 9)
  d_ratio_text := c.def_ 5 (d := dU5) rfl
  g_ratio_text := He.glo_ok Y N (c.fact 10)
  k_ratio_text := He.keep_ok (c.fact 11)
  d_is_digits := c.def_ 6 (d := dU6) rfl
  g_is_digits := He.glo_ok Y N (c.fact 12)
  k_is_digits := He.keep_ok (c.fact 13)
  d_read_ratio := c.def_ 7 (d := dU7) rfl
  g_read_ratio := He.glo_ok Y N (c.fact 14)
  k_read_ratio := He.keep_ok (c.fact 15)
  d__law_draw := c.def_ 8 (d := dU8) rfl
  g__law_draw := He.glo_ok Y N (c.fact 16)
  k__law_draw := He.keep_ok (c.fact 17)
  d__law_text := c.def_ 9 (d := dU9) rfl
  g__law_text := He.glo_ok Y N (c.fact 18)
  k__law_text := He.keep_ok (c.fact 19)
  d__law_neg := c.def_ 10 (d := dU10) rfl
  g__law_neg := He.glo_ok Y N (c.fact 20)
  k__law_neg := He.keep_ok (c.fact 21)
  d__law_q := c.def_ 11 (d := dU11) rfl
  g__law_q := He.glo_ok Y N (c.fact 22)
  k__law_q := He.keep_ok (c.fact 23)
  d__law_like := c.def_ 12 (d := dU12) rfl
  g__law_like := He.glo_ok Y N (c.fact 24)
  k__law_like := He.keep_ok (c.fact 25)
  d__law_spelled := c.def_ 13 (d := dU13) rfl
  g__law_spelled := He.glo_ok Y N (c.fact 26)
  k__law_spelled := He.keep_ok (c.fact 27)
  d__law_small := c.def_ 14 (d := dU14) rfl
  g__law_small := He.glo_ok Y N (c.fact 28)
  k__law_small := He.keep_ok (c.fact 29)
  d__law_number := c.def_ 15 (d := dU15) rfl
  g__law_number := He.glo_ok Y N (c.fact 30)
  k__law_number := He.keep_ok (c.fact 31)
  d__law_begin := c.def_ 16 (d := dU16) rfl
  g__law_begin := He.glo_ok Y N (c.fact 32)
  k__law_begin := He.keep_ok (c.fact 33)
  d_law := c.def_ 17 (d := dU17) rfl
  g_law := He.glo_ok Y N (c.fact 34)
  k_law := He.keep_ok (c.fact 35)
  n_abs := He.free_ok Y N (c.fact 36)
  n_all := He.free_ok Y N (c.fact 37)
  n_bool := He.free_ok Y N (c.fact 38)
  n_int := He.free_ok Y N (c.fact 39)
  n_isinstance := He.free_ok Y N (c.fact 40)
  n_len := He.free_ok Y N (c.fact 41)
  n_list := He.free_ok Y N (c.fact 42)
  n_range := He.free_ok Y N (c.fact 43)
  n_str := He.free_ok Y N (c.fact 44)
  n_tuple := He.free_ok Y N (c.fact 45)
  g_BrimError := He.glo_ok Y N (c.fact 46)
  g_InvalidNumber := He.glo_ok Y N (c.fact 47)
  g_NothingLeft := He.glo_ok Y N (c.fact 48)
  g_ParseError := He.glo_ok Y N (c.fact 49)
  g_UnknownCell := He.glo_ok Y N (c.fact 50)
  g_UnknownName := He.glo_ok Y N (c.fact 51)
  g_ZeroDivisor := He.glo_ok Y N (c.fact 52)
  g_MOST_DIGITS := He.int_ok Y N (c.fact 53)
  fl := by
    intro c f C e m
    cases e
  ex_InvalidNumber := ⟨Mx.excF1 (d := dU18) .ve (c.defC 18 (d := dU18) rfl) rfl rfl rfl rfl (c.fact 54) (He.glo_ok Y N (c.fact 47)) rfl (fun _ _ _ _ _ _ _ _ _ => rfl) rfl rfl (by decide +kernel) (by decide +kernel) (by decide +kernel) (by decide +kernel) rfl (by decide +kernel) (by decide +kernel) (by decide +kernel) (by decide +kernel) (by decide) (by decide) (by decide), (He.free_ok Y N (c.fact 55)), by decide +kernel⟩
  ex_ParseError := ⟨Mx.excF0 (d := dU19) .ve (c.defC 19 (d := dU19) rfl) rfl rfl rfl rfl (c.fact 56) (He.glo_ok Y N (c.fact 49)) rfl (fun _ _ _ _ _ _ _ _ => rfl) rfl rfl (by decide +kernel) (by decide +kernel) (by decide +kernel) rfl (by decide +kernel) (by decide +kernel) (by decide +kernel) (by decide +kernel), (He.free_ok Y N (c.fact 55)), by decide +kernel⟩
  ex_ZeroDivisor := ⟨Mx.excF0 (d := dU20) .ve (c.defC 20 (d := dU20) rfl) rfl rfl rfl rfl (c.fact 57) (He.glo_ok Y N (c.fact 52)) rfl (fun _ _ _ _ _ _ _ _ => rfl) rfl rfl (by decide +kernel) (by decide +kernel) (by decide +kernel) rfl (by decide +kernel) (by decide +kernel) (by decide +kernel) (by decide +kernel), (He.free_ok Y N (c.fact 55)), by decide +kernel⟩
  fx := by
    intro c f C e m
    have e : (c, f) ∈ xlP := of_decide_eq_true e
    simp only [xlP, List.mem_cons, List.not_mem_nil, or_false, Prod.mk.injEq] at e
    rcases e with ⟨rfl, rfl⟩ | ⟨rfl, rfl⟩ | ⟨rfl, rfl⟩ | ⟨rfl, rfl⟩ | ⟨rfl, rfl⟩ | ⟨rfl, rfl⟩ | ⟨rfl, rfl⟩ | ⟨rfl, rfl⟩ | ⟨rfl, rfl⟩ | ⟨rfl, rfl⟩ | ⟨rfl, rfl⟩ | ⟨rfl, rfl⟩ | ⟨rfl, rfl⟩ | ⟨rfl, rfl⟩ | ⟨rfl, rfl⟩ | ⟨rfl, rfl⟩ | ⟨rfl, rfl⟩ | ⟨rfl, rfl⟩ | ⟨rfl, rfl⟩ | ⟨rfl, rfl⟩ | ⟨rfl, rfl⟩ | ⟨rfl, rfl⟩ | ⟨rfl, rfl⟩ | ⟨rfl, rfl⟩ | ⟨rfl, rfl⟩ | ⟨rfl, rfl⟩ | ⟨rfl, rfl⟩ | ⟨rfl, rfl⟩ | ⟨rfl, rfl⟩ | ⟨rfl, rfl⟩ | ⟨rfl, rfl⟩ | ⟨rfl, rfl⟩ | ⟨rfl, rfl⟩ | ⟨rfl, rfl⟩ | ⟨rfl, rfl⟩ | ⟨rfl, rfl⟩ | ⟨rfl, rfl⟩ | ⟨rfl, rfl⟩ | ⟨rfl, rfl⟩ | ⟨rfl, rfl⟩ | ⟨rfl, rfl⟩ | ⟨rfl, rfl⟩ | ⟨rfl, rfl⟩ | ⟨rfl, rfl⟩ | ⟨rfl, rfl⟩ | ⟨rfl, rfl⟩ | ⟨rfl, rfl⟩ | ⟨rfl, rfl⟩ | ⟨rfl, rfl⟩ | ⟨rfl, rfl⟩ | ⟨rfl, rfl⟩ | ⟨rfl, rfl⟩ | ⟨rfl, rfl⟩ | ⟨rfl, rfl⟩ | ⟨rfl, rfl⟩ | ⟨rfl, rfl⟩ | ⟨rfl, rfl⟩ | ⟨rfl, rfl⟩ | ⟨rfl, rfl⟩ | ⟨rfl, rfl⟩ | ⟨rfl, rfl⟩ | ⟨rfl, rfl⟩ | ⟨rfl, rfl⟩ | ⟨rfl, rfl⟩ | ⟨rfl, rfl⟩ | ⟨rfl, rfl⟩ | ⟨rfl, rfl⟩ | ⟨rfl, rfl⟩
    · cases (He.glo_ok Y N (c.fact 47)).symm.trans m; exact xB_ok (c.fact 58) (by simp)
    · cases (He.glo_ok Y N (c.fact 47)).symm.trans m; exact xB_ok (c.fact 58) (by simp)
    · cases (He.glo_ok Y N (c.fact 52)).symm.trans m; exact xB_ok (c.fact 59) (by simp)
    · exact absurd ((He.free_ok Y N (c.fact 60)).symm.trans m) (by simp)
    · exact absurd ((He.free_ok Y N (c.fact 60)).symm.trans m) (by simp)
    · exact absurd ((He.free_ok Y N (c.fact 61)).symm.trans m) (by simp)
    · exact absurd ((He.free_ok Y N (c.fact 61)).symm.trans m) (by simp)
    · exact absurd ((He.free_ok Y N (c.fact 62)).symm.trans m) (by simp)
    · exact absurd ((He.free_ok Y N (c.fact 63)).symm.trans m) (by simp)
    · exact absurd ((He.free_ok Y N (c.fact 63)).symm.trans m) (by simp)
    · exact absurd ((He.free_ok Y N (c.fact 64)).symm.trans m) (by simp)
    · exact absurd ((He.free_ok Y N (c.fact 64)).symm.trans m) (by simp)
    · exact absurd ((He.free_ok Y N (c.fact 65)).symm.trans m) (by simp)
    · exact absurd ((He.free_ok Y N (c.fact 65)).symm.trans m) (by simp)
    · exact absurd ((He.free_ok Y N (c.fact 66)).symm.trans m) (by simp)
    · exact absurd ((He.free_ok Y N (c.fact 66)).symm.trans m) (by simp)
    · exact absurd ((He.free_ok Y N (c.fact 67)).symm.trans m) (by simp)
    · exact absurd ((He.free_ok Y N (c.fact 67)).symm.trans m) (by simp)
    · exact absurd ((He.free_ok Y N (c.fact 68)).symm.trans m) (by simp)
    · exact absurd ((He.free_ok Y N (c.fact 68)).symm.trans m) (by simp)
    · exact absurd ((He.free_ok Y N (c.fact 69)).symm.trans m) (by simp)
    · exact absurd ((He.free_ok Y N (c.fact 69)).symm.trans m) (by simp)
    · exact absurd ((He.free_ok Y N (c.fact 70)).symm.trans m) (by simp)
    · exact absurd ((He.free_ok Y N (c.fact 70)).symm.trans m) (by simp)
    · exact absurd ((He.free_ok Y N (c.fact 71)).symm.trans m) (by simp)
    · exact absurd ((He.free_ok Y N (c.fact 71)).symm.trans m) (by simp)
    · exact absurd ((He.free_ok Y N (c.fact 72)).symm.trans m) (by simp)
    · exact absurd ((He.free_ok Y N (c.fact 72)).symm.trans m) (by simp)
    · exact absurd ((He.free_ok Y N (c.fact 73)).symm.trans m) (by simp)
    · exact absurd ((He.free_ok Y N (c.fact 73)).symm.trans m) (by simp)
    · exact absurd ((He.free_ok Y N (c.fact 74)).symm.trans m) (by simp)
    · exact absurd ((He.free_ok Y N (c.fact 74)).symm.trans m) (by simp)
    · exact absurd ((He.free_ok Y N (c.fact 75)).symm.trans m) (by simp)
    · exact absurd ((He.free_ok Y N (c.fact 76)).symm.trans m) (by simp)
    · exact absurd ((He.free_ok Y N (c.fact 77)).symm.trans m) (by simp)
    · exact absurd ((He.free_ok Y N (c.fact 77)).symm.trans m) (by simp)
    · exact absurd ((He.free_ok Y N (c.fact 78)).symm.trans m) (by simp)
    · exact absurd ((He.free_ok Y N (c.fact 78)).symm.trans m) (by simp)
    · exact absurd ((He.free_ok Y N (c.fact 79)).symm.trans m) (by simp)
    · exact absurd ((He.free_ok Y N (c.fact 79)).symm.trans m) (by simp)
    · exact absurd ((He.free_ok Y N (c.fact 80)).symm.trans m) (by simp)
    · exact absurd ((He.free_ok Y N (c.fact 80)).symm.trans m) (by simp)
    · exact absurd ((He.free_ok Y N (c.fact 81)).symm.trans m) (by simp)
    · exact absurd ((He.free_ok Y N (c.fact 82)).symm.trans m) (by simp)
    · exact absurd ((He.free_ok Y N (c.fact 82)).symm.trans m) (by simp)
    · exact absurd ((He.free_ok Y N (c.fact 83)).symm.trans m) (by simp)
    · exact absurd ((He.free_ok Y N (c.fact 83)).symm.trans m) (by simp)
    · exact absurd ((He.free_ok Y N (c.fact 84)).symm.trans m) (by simp)
    · exact absurd ((He.free_ok Y N (c.fact 85)).symm.trans m) (by simp)
    · exact absurd ((He.free_ok Y N (c.fact 85)).symm.trans m) (by simp)
    · exact absurd ((He.free_ok Y N (c.fact 86)).symm.trans m) (by simp)
    · exact absurd ((He.free_ok Y N (c.fact 86)).symm.trans m) (by simp)
    · exact absurd ((He.free_ok Y N (c.fact 87)).symm.trans m) (by simp)
    · exact absurd ((He.free_ok Y N (c.fact 87)).symm.trans m) (by simp)
    · exact absurd ((He.free_ok Y N (c.fact 88)).symm.trans m) (by simp)
    · exact absurd ((He.free_ok Y N (c.fact 88)).symm.trans m) (by simp)
    · exact absurd ((He.free_ok Y N (c.fact 89)).symm.trans m) (by simp)
    · exact absurd ((He.free_ok Y N (c.fact 89)).symm.trans m) (by simp)
    · exact absurd ((He.free_ok Y N (c.fact 90)).symm.trans m) (by simp)
    · exact absurd ((He.free_ok Y N (c.fact 90)).symm.trans m) (by simp)
    · exact absurd ((He.free_ok Y N (c.fact 91)).symm.trans m) (by simp)
    · exact absurd ((He.free_ok Y N (c.fact 91)).symm.trans m) (by simp)
    · cases (He.glo_ok Y N (c.fact 49)).symm.trans m; exact xB_ok (c.fact 92) (by simp)
    · cases (He.glo_ok Y N (c.fact 50)).symm.trans m; exact xB_ok (c.fact 93) (by simp)
    · cases (He.glo_ok Y N (c.fact 50)).symm.trans m; exact xB_ok (c.fact 93) (by simp)
    · cases (He.glo_ok Y N (c.fact 51)).symm.trans m; exact xB_ok (c.fact 94) (by simp)
    · cases (He.glo_ok Y N (c.fact 51)).symm.trans m; exact xB_ok (c.fact 94) (by simp)
    · cases (He.glo_ok Y N (c.fact 48)).symm.trans m; exact xB_ok (c.fact 95) (by simp)
  hit := by
    intro c C e m
    have e : c ∈ excL := of_decide_eq_true e
    simp only [excL, List.mem_cons, List.not_mem_nil, or_false] at e
    rcases e with rfl | rfl | rfl | rfl | rfl | rfl | rfl | rfl | rfl | rfl | rfl | rfl | rfl | rfl | rfl | rfl | rfl | rfl | rfl | rfl | rfl | rfl | rfl | rfl | rfl | rfl | rfl | rfl | rfl | rfl | rfl | rfl | rfl | rfl | rfl | rfl | rfl | rfl
    · cases (He.glo_ok Y N (c.fact 47)).symm.trans m; exact hitB_ok (c.fact 96) (c.fact 58)
    · cases (He.glo_ok Y N (c.fact 52)).symm.trans m; exact hitB_ok (c.fact 97) (c.fact 59)
    · exact absurd ((He.free_ok Y N (c.fact 60)).symm.trans m) (by simp)
    · exact absurd ((He.free_ok Y N (c.fact 61)).symm.trans m) (by simp)
    · exact absurd ((He.free_ok Y N (c.fact 62)).symm.trans m) (by simp)
    · exact absurd ((He.free_ok Y N (c.fact 63)).symm.trans m) (by simp)
    · exact absurd ((He.free_ok Y N (c.fact 64)).symm.trans m) (by simp)
    · exact absurd ((He.free_ok Y N (c.fact 65)).symm.trans m) (by simp)
    · exact absurd ((He.free_ok Y N (c.fact 66)).symm.trans m) (by simp)
    · exact absurd ((He.free_ok Y N (c.fact 67)).symm.trans m) (by simp)
    · exact absurd ((He.free_ok Y N (c.fact 68)).symm.trans m) (by simp)
    · exact absurd ((He.free_ok Y N (c.fact 69)).symm.trans m) (by simp)
    · exact absurd ((He.free_ok Y N (c.fact 70)).symm.trans m) (by simp)
    · exact absurd ((He.free_ok Y N (c.fact 71)).symm.trans m) (by simp)
    · exact absurd ((He.free_ok Y N (c.fact 72)).symm.trans m) (by simp)
    · exact absurd ((He.free_ok Y N (c.fact 73)).symm.trans m) (by simp)
    · exact absurd ((He.free_ok Y N (c.fact 74)).symm.trans m) (by simp)
    · exact absurd ((He.free_ok Y N (c.fact 75)).symm.trans m) (by simp)
    · exact absurd ((He.free_ok Y N (c.fact 76)).symm.trans m) (by simp)
    · exact absurd ((He.free_ok Y N (c.fact 77)).symm.trans m) (by simp)
    · exact absurd ((He.free_ok Y N (c.fact 78)).symm.trans m) (by simp)
    · exact absurd ((He.free_ok Y N (c.fact 79)).symm.trans m) (by simp)
    · exact absurd ((He.free_ok Y N (c.fact 80)).symm.trans m) (by simp)
    · exact absurd ((He.free_ok Y N (c.fact 81)).symm.trans m) (by simp)
    · exact absurd ((He.free_ok Y N (c.fact 82)).symm.trans m) (by simp)
    · exact absurd ((He.free_ok Y N (c.fact 83)).symm.trans m) (by simp)
    · exact absurd ((He.free_ok Y N (c.fact 84)).symm.trans m) (by simp)
    · exact absurd ((He.free_ok Y N (c.fact 85)).symm.trans m) (by simp)
    · exact absurd ((He.free_ok Y N (c.fact 86)).symm.trans m) (by simp)
    · exact absurd ((He.free_ok Y N (c.fact 87)).symm.trans m) (by simp)
    · exact absurd ((He.free_ok Y N (c.fact 88)).symm.trans m) (by simp)
    · exact absurd ((He.free_ok Y N (c.fact 89)).symm.trans m) (by simp)
    · exact absurd ((He.free_ok Y N (c.fact 90)).symm.trans m) (by simp)
    · exact absurd ((He.free_ok Y N (c.fact 91)).symm.trans m) (by simp)
    · cases (He.glo_ok Y N (c.fact 49)).symm.trans m; exact hitB_ok (c.fact 98) (c.fact 92)
    · cases (He.glo_ok Y N (c.fact 50)).symm.trans m; exact hitB_ok (c.fact 99) (c.fact 93)
    · cases (He.glo_ok Y N (c.fact 51)).symm.trans m; exact hitB_ok (c.fact 100) (c.fact 94)
    · cases (He.glo_ok Y N (c.fact 48)).symm.trans m; exact hitB_ok (c.fact 101) (c.fact 95)
  kt := ktC_ok (by
    intro c hc
    simp only [List.mem_cons, List.not_mem_nil, or_false] at hc
    rcases hc with rfl | rfl
    · exact .inl (He.free_ok Y N (c.fact 102))
    · exact .inl (He.free_ok Y N (c.fact 103)))
def seedL0 : List PySem.Str := ["_law_field", "_law_told", "common", "ratio", "checked", "ratio_text", "is_digits", "read_ratio", "_law_draw", "_law_text", "_law_neg", "_law_q", "_law_like", "_law_spelled", "_law_small", "_law_number", "_law_begin", "law", "BrimError", "InvalidNumber", "NothingLeft", "ParseError", "UnknownCell", "UnknownName", "ZeroDivisor", "MOST_DIGITS"]
def seedL : List PySem.Str := seedL0
def looseL0 : List PySem.Str := ["BrimError", "InvalidNumber", "ZeroDivisor", "ParseError", "UnknownCell", "UnknownName", "NothingLeft", "MOST_DIGITS", "common", "ratio", "checked", "ratio_text", "is_digits", "read_ratio", "_law_begin", "_law_draw", "_law_like", "_law_field", "_law_told", "_law_q", "_law_neg", "_law_small", "_law_number", "_law_spelled", "_law_text"]
def looseL : List PySem.Str := looseL0
abbrev R : PySem.W.OpenRow := PySem.W.OpenLaw.row PySem.Challenge.rw_brimweb_k04_texts_of_numbers
abbrev hk : PySem.W.Hook := hookT seedL 5 ownL fnL ["law"]
def ob (s : PySem.W.SharedT) : Bool × AlU := obsT seedL 5 ownL fnL ["law"] (HandSHeadRun.getT s)
theorem ob_eq (s : PySem.W.SharedT) : @Eq (Bool × AlU) (ob s) (hk.obs s.abs) := obsT_eq (HandSHeadRun.getT_eq s)
theorem law_fn {P : Program} {w : World} {G : Gx} {base : Heap} (T : Facts P G) {fd : FuncData} (Fd : FunD G.K "law" "law" (defArgs s_law) (defBody s_law) (defScope s_law) [] [] (He.ga G.K "law") fd) {c : Addr} (hcd : codeOf G.K (He.ga G.K "law") = .ref c) (TB : LamX.TabB base G.mg c (tabA G.K "law")) : FnM P w G base 8 (He.ga G.K "law") fd ["_law_script"] m_law_k04 := fnL_law T Fd hcd TB
theorem law_bind {K : PySem.W.Frag} {fd : FuncData} (Fd : FunD K "law" "law" (defArgs s_law) (defBody s_law) (defScope s_law) [] [] (He.ga K "law") fd) (s : Shared) (v : Value) : BindsTo s fd ⟨[v], []⟩ [("_law_script", v)] := FunD.bindsA (ps := ["_law_script"]) Fd (fun _ _ _ _ _ _ us hl => match us, hl with | [_], _ => rfl) s [v] rfl
theorem run (w : World) : HandSHeadRun.RunEq R (PySem.W.view R.prog [28]) hk ob 20000 looseL w := by
  intro os
  kernel_rfl
theorem law_true {G : Gx} {H : Hp} {a : Addr} {ns : List Int} (hl : ns.length ≤ 63) (h : SqL G.K H a (ns.map V.int)) (ht : H (tabA G.K "law") = some (.tbl #[])) : spF G 1 m_law_k04 [V.ref a] H (fun v _ => v = .bl true) fun _ _ _ => False := by
  obtain ⟨st, e⟩ := law_k04 ns hl
  exact law_spT h ht e
end Br
open PySem PySem.W PySem.Calls PyProof.Rows
theorem PySem.Challenge.cw_brimweb_k04_texts_of_numbers_holds : PySem.Challenge.rw_brimweb_k04_texts_of_numbers.Holds := by
  w_on; o_law
  refine HandSHeadRun.head_any (r := OpenLaw.row PySem.Challenge.rw_brimweb_k04_texts_of_numbers) (q := view (OpenLaw.row PySem.Challenge.rw_brimweb_k04_texts_of_numbers).prog [28]) (H := Br.hk) (ob := Br.ob) (M := 20000) (loose := Br.looseL) (d := HandSHeadRun.topDef (OpenLaw.row PySem.Challenge.rw_brimweb_k04_texts_of_numbers).prog 28) (kwd := []) Br.ob_eq
    (by kernel_rfl) (fun s => by kernel_rfl) Br.run (by kernel_rfl) (by kernel_rfl) (by kernel_rfl) (by rfl) (by first | assumption | decide +kernel) (by decide +kernel) ⟨rfl, rfl, rfl, rfl, rfl, by decide +kernel⟩ ?hw ?hc
  case hw => w_witness2
  case hc =>
    refine Mi.walk_ofT (l := PySem.Challenge.rw_brimweb_k04_texts_of_numbers) (n := 63) (k := 8) (x := "_law_script") rfl (by decide) (by kernel_rfl) ⟨rfl, by decide, by decide⟩ ?F
    intro w mg fa h Y N hmg0
    obtain ⟨K, KX, c, tab⟩ := Y
    have T := Br.facts_of KX N c
    have hmg : mg ("law" : PySem.Str) = some (.ref fa) := by
      have e : (HandSHeadRun.topDef (OpenLaw.row PySem.Challenge.rw_brimweb_k04_texts_of_numbers).prog 28).name = ("law" : PySem.Str) := by kernel_rfl
      rw [← e]
      exact hmg0
    have ea : He.ga K "law" = fa := by
      have z := hmg.symm.trans T.g_law
      cases z; rfl
    subst ea
    obtain ⟨fd, Fd⟩ := T.d_law
    obtain ⟨cl, hcd, hd, hn⟩ := Mi.tabB_ok KX (x := "law") (c.fact 104)
    exact ⟨K, KX, fd, [(cl, Mi.tabA K "law")], (fun vs H Q _ => Mi.spF ⟨K, mg⟩ 1 Br.m_law_k04 vs H Q fun _ _ _ => False), (fun p hp => by rw [List.mem_singleton.mp hp]; exact tab _ (List.mem_singleton.mpr rfl)), (fun p hp => by rw [List.mem_singleton.mp hp]; exact hn), (fun p hp => by rw [List.mem_singleton.mp hp]; exact hd), fun s v => Br.law_bind Fd s v,
      fun H a ns hl _ hT hS => Br.law_true (G := ⟨K, mg⟩) hl hS (hT _ (List.mem_singleton.mpr rfl)), fun base hin hns hTB => Mi.FnOk.quiet (Br.law_fn (P := (PySem.Challenge.rw_brimweb_k04_texts_of_numbers).prog) (w := w) (G := ⟨K, mg⟩) (base := base) T Fd hcd (hTB _ (List.mem_singleton.mpr rfl)))⟩
