import PyProof.Rows.All
import Wide.All
import OpenK.AllK
import Wide.FinOn
import HandS.ForMost
import HandS.ForExc
import HandS.ExcInit
import HandS.ExcField
import HandS.Walk
import HandS.TupAny
import HandS.Deep
import HandS.IsInst
import HandS.Text
import HandS.TupMul
import HandS.CallSlots
import HandS.HeadWalk
import KE.GoesEnum
import PyProof.InstEq
import HandS.Zip
import HandS.Style
import HandS.More
import KE.KExcSuper
import HandS.ExcSuper
import HandS.TryOnly
import HandS.ExcIs
import HandS.ExcBuiltin
import PyProof.ReprReads
import PyProof.ReprRoads
import PyProof.CallFns
import HandS.Conv
import HandS.Defaults
import HandS.Head0
import HandS.Head1
import HandS.Head2
import HandS.HeadEnd
import HandS.HeadHook1
import HandS.HeadHook2
import PySem.Challenge.RW_mealsbynoon_k09_errors
import HandS.Head3
import HandS.Head4
set_option Elab.async false
set_option linter.all false
set_option maxRecDepth 100000
set_option maxHeartbeats 4000000
/-! IvA: values, worlds, the relation of values to the abstract heap. -/
namespace Iv
open PySem PySem.Spec L2
open PyProof.Rows hiding St

/-- values, as trees -/
inductive D where
  | non | bl (b : Bool) | int (i : Int) | str (s : Str)
  | tup (xs : List D) | lst (xs : List D)
  | obj (c : Nat) (fs : List (Nat × D)) | fn (i : Nat) | loc (l : Nat)
  deriving Inhabited
/-- what may change -/
inductive Cell where
  | lst (xs : List D) | ins (c : Nat) (fs : List (Nat × D))
def Cell.toD : Cell → D
  | .lst xs => .lst xs
  | .ins c fs => .obj c fs
/-- a slot of a frame: nothing, a value, a thing that this frame alone holds and may change -/
inductive Sl where
  | no | d (x : D) | ow (c : Cell) | xc
abbrev Store := List Cell
inductive R (α : Type) where
  | ok (a : α) (s : Store) | exc (c : Nat) (fs : List D) (s : Store) | stuck
def R.bind {α β : Type} : R α → (α → Store → R β) → R β
  | .ok a s, f => f a s
  | .exc c fs s, _ => .exc c fs s
  | .stuck, _ => .stuck

/-- the program's tables: the addresses of defs, classes, error classes; the names of marks on objects; the fields of error classes (by the names' numbers) -/
structure Tab where
  fa : Nat → Addr
  ca : Nat → Addr
  xa : Nat → Addr
  nm : Nat → Str
  xf : Nat → List Nat
  xp : Nat → Bool
  xt : Nat → Value
structure Base where
  K : PySem.W.Frag
  T : Tab

/-- a world: where the store's cells lie, which addresses are held by frames -/
structure Wd where
  φ : Nat → Option Addr
  O : Addr → Prop
def Wd.cell (ω : Wd) (a : Addr) : Prop := ∃ l, ω.φ l = some a
def Wd.L (ω : Wd) (a : Addr) : Prop := ω.O a ∨ ω.cell a


/-- in the written part: a list, a tuple -/
def KL (K : PySem.W.Frag) (a : Addr) (xs : List V) : Prop :=
  ∃ (o : Obj) (its : Array Value) (n : Nat), K.lookup a = some o ∧ o.cls = .type "list" ∧ o.dict = none ∧ o.data = .seq its n ∧ its.size ≤ sizeLine ∧ Vals xs its.toList
def KT (K : PySem.W.Frag) (a : Addr) (xs : List V) : Prop :=
  ∃ (o : Obj) (its : Array Value) (n : Nat), K.lookup a = some o ∧ o.cls = .type "tuple" ∧ o.data = .seq its n ∧ its.size ≤ sizeLine ∧ Vals xs its.toList
section
variable (B : Base) (ω : Wd) (H : Hp)
/-- what stands at a stays: tracked, not under control -/
def Fz (a : Addr) (u : HO) : Prop := Rd H a u ∧ ¬ ω.L a
def LstAt (a : Addr) (vs : List V) : Prop := Fz ω H a (.lst vs) ∨ KL B.K a vs
def TupAt (a : Addr) (vs : List V) : Prop := Fz ω H a (.tup vs) ∨ KT B.K a vs
mutual
inductive RelD : D → V → Prop
  | non : RelD .non .non
  | bl (b) : RelD (.bl b) (.bl b)
  | int (i) : RelD (.int i) (.int i)
  | str (s) : RelD (.str s) (.str s)
  | tup {xs a vs} : TupAt B ω H a vs → RelDs xs vs → RelD (.tup xs) (.ref a)
  | lst {xs a vs} : LstAt B ω H a vs → RelDs xs vs → RelD (.lst xs) (.ref a)
  | obj {c fs a dx vs} : H a = some (.ins (B.T.ca c) dx vs) → ¬ ω.L a → RelFs fs vs → RelD (.obj c fs) (.ref a)
  | fn (i) : RelD (.fn i) (.ref (B.T.fa i))
  | loc {l a} : ω.φ l = some a → RelD (.loc l) (.ref a)
inductive RelDs : List D → List V → Prop
  | nil : RelDs [] []
  | cons {d ds v vs} : RelD d v → RelDs ds vs → RelDs (d :: ds) (v :: vs)
inductive RelFs : List (Nat × D) → List (Str × V) → Prop
  | nil : RelFs [] []
  | cons {n d fs v vs} : RelD d v → RelFs fs vs → RelFs ((n, d) :: fs) ((B.T.nm n, v) :: vs)
end
end

/-- what is tracked and not under control stays so; cells stay cells -/
structure Keep (ω : Wd) (H : Hp) (ω' : Wd) (H' : Hp) : Prop where
  phi : ∀ l a, ω.φ l = some a → ω'.φ l = some a
  at_ : ∀ a o, H a = some o → ¬ ω.L a → H' a = some o ∧ ¬ ω'.L a
theorem Keep.refl {ω : Wd} {H : Hp} : Keep ω H ω H := ⟨fun _ _ h => h, fun _ _ h n => ⟨h, n⟩⟩
theorem Keep.trans {ω ω1 ω2 : Wd} {H H1 H2 : Hp} (a : Keep ω H ω1 H1) (b : Keep ω1 H1 ω2 H2) : Keep ω H ω2 H2 :=
  ⟨fun l x h => b.phi l x (a.phi l x h), fun x o h n => let ⟨h1, n1⟩ := a.at_ x o h n; b.at_ x o h1 n1⟩

section
variable {B : Base} {ω ω' : Wd} {H H' : Hp}
theorem Fz.keep {a : Addr} {u : HO} (h : Fz ω H a u) (k : Keep ω H ω' H') : Fz ω' H' a u := by
  obtain ⟨h | ⟨o, h⟩, n⟩ := h
  · obtain ⟨h', n'⟩ := k.at_ a _ h n
    exact ⟨.inl h', n'⟩
  · obtain ⟨h', n'⟩ := k.at_ a _ h n
    exact ⟨.inr ⟨o, h'⟩, n'⟩
theorem LstAt.keep {a : Addr} {vs : List V} (h : LstAt B ω H a vs) (k : Keep ω H ω' H') : LstAt B ω' H' a vs := h.imp (fun z => z.keep k) id
theorem TupAt.keep {a : Addr} {vs : List V} (h : TupAt B ω H a vs) (k : Keep ω H ω' H') : TupAt B ω' H' a vs := h.imp (fun z => z.keep k) id
theorem LstAt.sq {a : Addr} {vs : List V} (h : LstAt B ω H a vs) : SqL B.K H a vs := h.imp (fun z => z.1) id
theorem TupAt.sq {a : Addr} {vs : List V} (h : TupAt B ω H a vs) : SqT B.K H a vs := h.imp (fun z => z.1) id
mutual
theorem RelD.keep {d : D} {v : V} (h : RelD B ω H d v) (k : Keep ω H ω' H') : RelD B ω' H' d v := by
  cases h with
  | non => exact .non
  | bl b => exact .bl b
  | int i => exact .int i
  | str s => exact .str s
  | tup h hs => exact .tup (h.keep k) (RelDs.keep hs k)
  | lst h hs => exact .lst (h.keep k) (RelDs.keep hs k)
  | obj h n hs =>
    obtain ⟨h', n'⟩ := k.at_ _ _ h n
    exact .obj h' n' (RelFs.keep hs k)
  | fn i => exact .fn i
  | loc h => exact .loc (k.phi _ _ h)
theorem RelDs.keep {d : List D} {v : List V} (h : RelDs B ω H d v) (k : Keep ω H ω' H') : RelDs B ω' H' d v := by
  cases h with
  | nil => exact .nil
  | cons h hs => exact .cons (RelD.keep h k) (RelDs.keep hs k)
theorem RelFs.keep {d : List (Nat × D)} {v : List (Str × V)} (h : RelFs B ω H d v) (k : Keep ω H ω' H') : RelFs B ω' H' d v := by
  cases h with
  | nil => exact .nil
  | cons h hs => exact .cons (RelD.keep h k) (RelFs.keep hs k)
end
theorem RelDs.length : ∀ {ds : List D} {vs : List V}, RelDs B ω H ds vs → ds.length = vs.length
  | _, _, .nil => rfl
  | _, _, .cons _ t => by rw [List.length_cons, List.length_cons, RelDs.length t]
theorem RelDs.get : ∀ {ds : List D} {vs : List V} {i : Nat} {d : D}, RelDs B ω H ds vs → ds[i]? = some d → ∃ v, vs[i]? = some v ∧ RelD B ω H d v
  | _, _, _, _, .nil, e => by simp at e
  | _, _, 0, _, .cons r _, e => by simp at e; subst e; exact ⟨_, rfl, r⟩
  | _, _, i + 1, _, .cons _ t, e => by simpa using RelDs.get (i := i) t (by simpa using e)
theorem RelDs.get' : ∀ {ds : List D} {vs : List V} {i : Nat} {v : V}, RelDs B ω H ds vs → vs[i]? = some v → ∃ d, ds[i]? = some d ∧ RelD B ω H d v
  | _, _, _, _, .nil, e => by simp at e
  | _, _, 0, _, .cons r _, e => by simp at e; subst e; exact ⟨_, rfl, r⟩
  | _, _, i + 1, _, .cons _ t, e => by simpa using RelDs.get' (i := i) t (by simpa using e)
theorem RelDs.append : ∀ {ds es : List D} {vs us : List V}, RelDs B ω H ds vs → RelDs B ω H es us → RelDs B ω H (ds ++ es) (vs ++ us)
  | _, _, _, _, .nil, s => s
  | _, _, _, _, .cons r t, s => .cons r (RelDs.append t s)
theorem RelDs.one {d : D} {v : V} (h : RelD B ω H d v) : RelDs B ω H [d] [v] := .cons h .nil
theorem RelDs.set {d : D} {v : V} (r : RelD B ω H d v) : ∀ {ds : List D} {vs : List V} (i : Nat), RelDs B ω H ds vs → RelDs B ω H (ds.set i d) (vs.set i v)
  | _, _, _, .nil => .nil
  | _, _, 0, .cons _ t => .cons r t
  | _, _, i + 1, .cons q t => .cons q (RelDs.set r i t)
theorem RelDs.take : ∀ {ds : List D} {vs : List V} (n : Nat), RelDs B ω H ds vs → RelDs B ω H (ds.take n) (vs.take n)
  | _, _, 0, _ => .nil
  | _, _, _ + 1, .nil => .nil
  | _, _, n + 1, .cons r t => .cons r (RelDs.take n t)
theorem RelDs.drop : ∀ {ds : List D} {vs : List V} (n : Nat), RelDs B ω H ds vs → RelDs B ω H (ds.drop n) (vs.drop n)
  | _, _, 0, r => r
  | _, _, _ + 1, .nil => .nil
  | _, _, n + 1, .cons _ t => RelDs.drop n t

/-! ### the store, the frame -/
/-- what a cell (or an owned thing) is, at a -/
def CellAt (B : Base) (ω : Wd) (H : Hp) (a : Addr) : Cell → Prop
  | .lst xs => ∃ vs, H a = some (.lst vs) ∧ RelDs B ω H xs vs
  | .ins c fs => ∃ dx vs, H a = some (.ins (B.T.ca c) dx vs) ∧ RelFs B ω H fs vs
structure SimSt (B : Base) (ω : Wd) (st : Store) (H : Hp) : Prop where
  cells : ∀ (l : Nat) (c : Cell), st[l]? = some c → ∃ a, ω.φ l = some a ∧ CellAt B ω H a c
  dom : ∀ l a, ω.φ l = some a → l < st.length
  inj : ∀ l m a, ω.φ l = some a → ω.φ m = some a → l = m
  noO : ∀ l a, ω.φ l = some a → ¬ ω.O a
  trO : ∀ a, ω.O a → (H a).isSome
/-- where the instance of slot 0 lies, while its __init__ runs; where the exception lies, in an except suite -/
structure Me where
  ini : Option Addr
  xc : Option Addr
/-- a frame -/
structure SimEnv (B : Base) (ω : Wd) (me : Me) (env : List Sl) (σ : St) (H : Hp) : Prop where
  len : env.length = σ.length
  val : ∀ (i : Nat) (d : D), env[i]? = some (.d d) → ∃ v, σ[i]? = some (some v) ∧ RelD B ω H d v
  own : ∀ (i : Nat) (c : Cell), env[i]? = some (.ow c) → ∃ a : Addr, σ[i]? = some (some (.ref a)) ∧ CellAt B ω H a c ∧ ω.O a ∧ (i = 0 → me.ini = some a)
  ne : ∀ (i j : Nat) (c e : Cell) (a : Addr), env[i]? = some (.ow c) → env[j]? = some (.ow e) → σ[i]? = some (some (.ref a)) → σ[j]? = some (some (.ref a)) → i = j
  xcp : ∀ (i : Nat), env[i]? = some .xc → ∃ a, me.xc = some a ∧ σ[i]? = some (some (.ref a))

/-- an expression's step: nothing that is tracked changes but cells -/
structure Ext (ω : Wd) (H : Hp) (ω' : Wd) (H' : Hp) : Prop where
  phi : ∀ l a, ω.φ l = some a → ω'.φ l = some a
  O : ω'.O = ω.O
  at_ : ∀ a o, H a = some o → ¬ ω.cell a → H' a = some o ∧ ¬ ω'.cell a
theorem Ext.refl {ω : Wd} {H : Hp} : Ext ω H ω H := ⟨fun _ _ h => h, rfl, fun _ _ h n => ⟨h, n⟩⟩
theorem Ext.trans {ω ω1 ω2 : Wd} {H H1 H2 : Hp} (a : Ext ω H ω1 H1) (b : Ext ω1 H1 ω2 H2) : Ext ω H ω2 H2 :=
  ⟨fun l x h => b.phi l x (a.phi l x h), b.O.trans a.O, fun x o h n => let ⟨h1, n1⟩ := a.at_ x o h n; b.at_ x o h1 n1⟩
theorem Ext.keep (e : Ext ω H ω' H') : Keep ω H ω' H' := ⟨e.phi, fun a o h n => by
  have nc : ¬ ω.cell a := fun z => n (.inr z)
  have no : ¬ ω.O a := fun z => n (.inl z)
  obtain ⟨h', n'⟩ := e.at_ a o h nc
  refine ⟨h', fun z => ?_⟩
  rcases z with z | z
  · rw [e.O] at z; exact no z
  · exact n' z⟩
/-- a new object -/
theorem Ext.new {p : Addr} {o : HO} (h : H p = none) : Ext ω H ω (upd H p o) := ⟨fun _ _ h => h, rfl, fun a u ha n => ⟨by rw [upd_ne (ne_of_none ha h)]; exact ha, n⟩⟩
theorem CellAt.keep {a : Addr} {c : Cell} (h : CellAt B ω H a c) (k : Keep ω H ω' H') (e : ∀ o, H a = some o → H' a = some o) : CellAt B ω' H' a c := by
  cases c with
  | lst xs => obtain ⟨vs, h1, h2⟩ := h; exact ⟨vs, e _ h1, h2.keep k⟩
  | ins c fs => obtain ⟨dx, vs, h1, h2⟩ := h; exact ⟨dx, vs, e _ h1, h2.keep k⟩
theorem CellAt.some {a : Addr} {c : Cell} (h : CellAt B ω H a c) : ∃ o, H a = some o := by
  cases c with
  | lst xs => obtain ⟨vs, h1, _⟩ := h; exact ⟨_, h1⟩
  | ins c fs => obtain ⟨dx, vs, h1, _⟩ := h; exact ⟨_, h1⟩
theorem SimEnv.ext {me : Me} {env : List Sl} {σ : St} (s : SimEnv B ω me env σ H) (e : Ext ω H ω' H') (st : Store) (z : SimSt B ω st H) : SimEnv B ω' me env σ H' := by
  refine ⟨s.len, fun i d h => ?_, fun i c h => ?_, s.ne, s.xcp⟩
  · obtain ⟨v, h1, h2⟩ := s.val i d h
    exact ⟨v, h1, h2.keep e.keep⟩
  · obtain ⟨a, h1, h2, h3, h4⟩ := s.own i c h
    refine ⟨a, h1, h2.keep e.keep fun o q => (e.at_ a o q fun ⟨l, hl⟩ => z.noO l a hl h3).1, by rw [e.O]; exact h3, h4⟩
/-- a new object beside the store -/
theorem SimSt.new {st : Store} {p : Addr} {o : HO} (s : SimSt B ω st H) (h : H p = none) : SimSt B ω st (upd H p o) := by
  have e : Ext ω H ω (upd H p o) := .new h
  refine ⟨fun l c hl => ?_, s.dom, s.inj, s.noO, fun a ha => ?_⟩
  · obtain ⟨a, h1, h2⟩ := s.cells l c hl
    exact ⟨a, h1, h2.keep e.keep fun u hu => by rw [upd_ne (ne_of_none hu h)]; exact hu⟩
  · have q := s.trO a ha
    obtain ⟨u, hu⟩ := Option.isSome_iff_exists.mp q
    rw [upd_ne (ne_of_none hu h), hu]; rfl
end
end Iv

set_option Elab.async false
set_option linter.all false
set_option maxRecDepth 100000
set_option maxHeartbeats 4000000
/-! IvB: the small language (a view of the program's syntax over slots) and what it does, step by step, over trees. -/
namespace Iv
open PySem PySem.Spec L2
open PyProof.Rows hiding St

inductive Op where | add | sub | mul | fdv | mod | pow
inductive Cm where | eq | ne | lt | le | gt | ge | is_ | isn | in_ | nin
inductive Bf where | len | tuple | list | max | min | sum | abs | int | str | sorted | all | any | repr
inductive Bm where | index | join | get | split
inductive Ty where | int | bool | str | list | tuple
inductive Tg where | nm (i : Nat) | tp (is : List Nat)
inductive Ex where
  | nil | var (i : Nat) | lit (d : D) | glb (x : Nat)
  | bin (o : Op) (a b : Ex) | neg (a : Ex)
  | cmp (o : Cm) (a b : Ex) | chn (o p : Cm) (a b c : Ex)
  | not (a : Ex) | and (a b : Ex) | or (a b : Ex) | one (a : Ex) | ite (t a b : Ex)
  | call (f : Nat) (as : List Ex) | callv (i : Nat) (as : List Ex) | mk (c : Nat) (as : List Ex) | meth (o : Ex) (m : Nat) (as : List Ex)
  | bf (b : Bf) (as : List Ex) | bm (o : Ex) (m : Bm) (as : List Ex) | isi (e : Ex) (ts : List Ty) | isc (e : Ex) (c : Nat)
  | att (o : Ex) (f : Nat) | idx (o i : Ex) | slc (o lo hi : Ex)
  | tup (es : List Ex) | lst (es : List Ex)
  | cpr (elt : Ex) (own : List Nat) (tg : Tg) (it : Ex) (ifs : Ex)
  | rng (a b : Ex) | enm (e : Ex) | zip (a b : Ex)
  | xat (i f : Nat) | xis (i t : Nat) | xkf (c : Nat) (ns : List Nat) (as : List Ex) (f : Nat)
  | rpr (a : Ex) | lrn (a b : Ex) | oeq (n : Bool) (a b : Ex)
inductive Sm where
  | asg (t : Tg) (e : Ex) | mas (is : List Nat) (es : List (Bool × Ex))
  | own (i : Nat) (e : Ex) | new (i : Nat) (e : Ex) | frz (i : Nat)
  | aug (i : Nat) (o : Op) (e : Ex) | app (i : Nat) (e : Ex) | ext (i : Nat) (e : Ex) | ins (i : Nat) (a e : Ex)
  | sti (i : Nat) (k e : Ex) | sta (i f : Nat) (e : Ex)
  | exp (e : Ex) | ret (e : Ex) | retN | pass
  | iff (t : Ex) (a b : List Sm) | whl (t : Ex) (b : List Sm) | for_ (tg : Tg) (it : Ex) (b : List Sm)
  | rai (c : Nat) (as : List Ex) | try_ (b : List Sm) (c : Nat) (n : Option Nat) (u : List Sm)

/-- the largest number of items -/
def big : Nat := 16777216
def fits (n : Nat) : Bool := decide (n ≤ big)

/-! ### operators over trees -/
mutual
def D.p : D → Option PyData
  | .non => some .none
  | .bl b => some (.bool b)
  | .int i => some (.int i)
  | .str s => some (.str s)
  | .tup xs => (D.ps xs).map .tuple
  | .lst xs => (D.ps xs).map .list
  | _ => none
def D.ps : List D → Option (List PyData)
  | [] => some []
  | x :: xs => match D.p x, D.ps xs with
    | some a, some as => some (a :: as)
    | _, _ => none
end
/-- a == b -/
def eqD (a b : D) : Option Bool := match D.p a, D.p b with
  | some x, some y => if SeqAt.shaped x && SeqAt.shaped y then some (PyData.eqv x y) else none
  | _, _ => none
/-- a in b: lists and tuples -/
def inD (a : D) : D → Option Bool
  | .lst ys => match D.p a, D.ps ys with
    | some x, some zs => if SeqAt.shaped x && SeqAt.shaped (.list zs) then some (zs.any fun z => PyData.eqv z x) else none
    | _, _ => none
  | .tup ys => match D.p a, D.ps ys with
    | some x, some zs => if SeqAt.shaped x && SeqAt.shaped (.tuple zs) then some (zs.any fun z => PyData.eqv z x) else none
    | _, _ => none
  | .str t => match a with
    | .str s => some (!(Builtin.Str.occurrences t s 0 t.length 1).isEmpty)
    | _ => none
  | _ => none
def smallI (i : Int) : Bool := decide (-(2 ^ 64) < i) && decide (i < 2 ^ 64)
def addD (x y : D) : Option D := match x, y with
  | .int i, .int j => some (.int (i + j))
  | .str i, .str j => if fits (i.length + j.length) then some (.str (i ++ j)) else none
  | .tup xs, .tup ys => if fits (xs.length + ys.length) then some (.tup (xs ++ ys)) else none
  | .lst xs, .lst ys => if fits (xs.length + ys.length) then some (.lst (xs ++ ys)) else none
  | _, _ => none
def subD (x y : D) : Option D := match x, y with
  | .int i, .int j => some (.int (i - j))
  | _, _ => none
def mulD (x y : D) : Option D := match x, y with
  | .int i, .int j => if smallI i || smallI j then some (.int (i * j)) else none
  | .lst xs, .int j => if decide (-(2 ^ 63) ≤ j) && decide (j < 2 ^ 63) && fits (xs.length * j.toNat) then some (.lst (List.replicate j.toNat xs).flatten) else none
  | .tup xs, .int j => if decide (2 ≤ j) && decide (j ≤ 1000) && decide (xs.length ≤ 1000) && !xs.isEmpty then some (.tup (List.replicate j.toNat xs).flatten) else none
  | _, _ => none
def fdvD (x y : D) : Option D := match x, y with
  | .int i, .int j => if decide (0 < j) && decide (j < 1073741824) then some (.int (i / j)) else none
  | _, _ => none
def modD (x y : D) : Option D := match x, y with
  | .int i, .int j => if decide (0 < j) then some (.int (i % j)) else none
  | _, _ => none
def powD (x y : D) : Option D := match x, y with
  | .int i, .int j => if decide (0 ≤ j) && decide (j ≤ 1000000) && decide (i.natAbs < 2 ^ 64) then some (.int (i ^ j.toNat)) else none
  | _, _ => none
def opB (o : Op) (x y : D) : Option D := match o with
  | .add => addD x y
  | .sub => subD x y
  | .mul => mulD x y
  | .fdv => fdvD x y
  | .mod => modD x y
  | .pow => powD x y
def isND (x y : D) : Option Bool := match y with
  | .non => match x with
    | .non => some true
    | .int _ => some false
    | .str _ => some false
    | .tup _ => some false
    | .lst _ => some false
    | .bl _ => some false
    | .obj _ _ => some false
    | _ => none
  | _ => none
def intC (f : Int → Int → Bool) (x y : D) : Option Bool := match x, y with
  | .int i, .int j => some (f i j)
  | _, _ => none
def cmB (o : Cm) (x y : D) : Option Bool := match o with
  | .lt => intC (fun i j => decide (i < j)) x y
  | .le => intC (fun i j => decide (i ≤ j)) x y
  | .gt => intC (fun i j => decide (j < i)) x y
  | .ge => intC (fun i j => decide (j ≤ i)) x y
  | .eq => eqD x y
  | .ne => (eqD x y).map (!·)
  | .in_ => inD x y
  | .nin => (inD x y).map (!·)
  | .is_ => isND x y
  | .isn => (isND x y).map (!·)
/-- the place of an index of any sign -/
abbrev ixD (n : Nat) (i : Int) : Option Nat := L2.ixN n i
def idxD (o i : D) : Option D := match o, i with
  | .lst xs, .int i => L2.atI xs i
  | .tup xs, .int i => L2.atI xs i
  | .str s, .int i => if fits s.length then (L2.atI s.cps.toList i).map fun c => .str ⟨#[c]⟩ else none
  | _, _ => none
/-- a bound of a slice: from the end if below 0, cut to the length -/
abbrev cutI (n d : Nat) (o : Option Int) : Nat := _root_.HT.sIx n d o
def cutL {α : Type} (xs : List α) (lo hi : Option Int) : List α := (xs.drop (cutI xs.length 0 lo)).take (cutI xs.length xs.length hi - cutI xs.length 0 lo)
def slcD (o : D) (lo hi : Option Int) : Option D := match o with
  | .lst xs => some (.lst (cutL xs lo hi))
  | .tup xs => some (.tup (cutL xs lo hi))
  | .str s => if fits s.length then some (.str (L2.cutS s lo hi)) else none
  | _ => none
def intsD : List D → Option (List Int)
  | [] => some []
  | .int i :: r => (intsD r).map (i :: ·)
  | _ => none
def bolsD : List D → Option (List Bool)
  | [] => some []
  | .bl i :: r => (bolsD r).map (i :: ·)
  | _ => none
def maxI : List Int → Option Int
  | [] => none
  | x :: r => some (r.foldl (fun m y => if y > m then y else m) x)
def minI : List Int → Option Int
  | [] => none
  | x :: r => some (r.foldl (fun m y => if y < m then y else m) x)
/-- what is walked -/
def itemsD : D → Option (List D)
  | .lst xs => some xs
  | .tup xs => some xs
  | .str s => some (s.cps.toList.map fun c => .str ⟨#[c]⟩)
  | _ => none
def seqD : D → Option (List D)
  | .lst xs => some xs
  | .tup xs => some xs
  | _ => none
def lenD : List D → Option D
  | [.lst xs] => some (.int xs.length)
  | [.tup xs] => some (.int xs.length)
  | [.str s] => if fits s.length then some (.int s.length) else none
  | _ => none
def tupleD : List D → Option D
  | [.lst xs] => some (.tup xs)
  | [.tup xs] => some (.tup xs)
  | _ => none
def listD : List D → Option D
  | [.lst xs] => some (.lst xs)
  | [.tup xs] => some (.lst xs)
  | _ => none
def maxD : List D → Option D
  | [.int i, .int j] => some (.int (if j > i then j else i))
  | [.lst xs] => ((intsD xs).bind maxI).map .int
  | _ => none
def minD : List D → Option D
  | [.int i, .int j] => some (.int (if j < i then j else i))
  | [.lst xs] => ((intsD xs).bind minI).map .int
  | _ => none
def sumD : List D → Option D
  | [.lst xs] => (intsD xs).map fun ns => .int ns.sum
  | [.tup xs] => (intsD xs).map fun ns => .int ns.sum
  | _ => none
def absD : List D → Option D
  | [.int i] => some (.int (if i < 0 then -i else i))
  | _ => none
def intD : List D → Option D
  | [.int i] => some (.int i)
  | [.bl b] => some (.int (if b then 1 else 0))
  | _ => none
def allD : List D → Option D
  | [.lst xs] => (bolsD xs).map fun bs => .bl (bs.all id)
  | _ => none
def anyD : List D → Option D
  | [.lst xs] => (bolsD xs).map fun bs => .bl (bs.any id)
  | _ => none
def bfD (b : Bf) (ds : List D) : Option D := match b with
  | .len => lenD ds
  | .tuple => tupleD ds
  | .list => listD ds
  | .max => maxD ds
  | .min => minD ds
  | .sum => sumD ds
  | .abs => absD ds
  | .int => intD ds
  | .all => allD ds
  | .any => anyD ds
  | _ => none
def isT1 : Ty → D → Bool
  | .int, .int _ => true
  | .int, .bl _ => true
  | .bool, .bl _ => true
  | .str, .str _ => true
  | .list, .lst _ => true
  | .tuple, .tup _ => true
  | _, _ => false

/-! ### the run -/
structure Fns where
  call : Nat → List D → Store → R D
  make : Nat → List D → Store → R D
  fuel : Nat
structure Pt where
  gl : Nat → Option D
  meth : Nat → Nat → Option Nat
  isFn : Nat → Bool
  isAt : Nat → Nat → Bool
  own : Nat → Bool
  eqf : Nat → Option Nat
  xis : Nat → Nat → Option Bool := fun _ _ => none
/-- the exception at hand in an except suite: its class, its fields by their names' numbers -/
abbrev Xh := Option (Nat × List (Nat × D))

/-- what may stand at the right of an own == -/
def okEq (c : Nat) : D → Bool
  | .obj c' _ => c' == c
  | .fn _ => false
  | .loc _ => false
  | _ => true
def lift {α : Type} (o : Option α) (st : Store) : R α := match o with
  | some a => .ok a st
  | none => .stuck
def der (st : Store) : D → D
  | .loc l => match st[l]? with
    | some c => c.toD
    | none => .loc l
  | d => d
/-- a name that holds a thing of its own is lent -/
def brw (env : List Sl) (e : Ex) (st : Store) (r : R D) : R D := match e with
  | .var i => match env[i]? with
    | some (.ow c) => .ok c.toD st
    | _ => r
  | _ => r
def setSl (env : List Sl) (i : Nat) (s : Sl) : Option (List Sl) := if i < env.length then some (env.set i s) else none
def setAll : List Sl → List Nat → List D → Option (List Sl)
  | env, [], [] => some env
  | env, i :: is, d :: ds => (setSl env i (.d d)).bind fun e => setAll e is ds
  | _, _, _ => none
def asgT (t : Tg) (d : D) (env : List Sl) : Option (List Sl) := match t with
  | .nm i => setSl env i (.d d)
  | .tp is => match d with
    | .tup ds => setAll env is ds
    | _ => none
def wipeE (env : List Sl) : List Nat → List Sl
  | [] => env
  | v :: vs => (wipeE env vs).set v .no
/-- the turns of a comprehension: none: the item is left out; nothing may be raised -/
def loopC (f : D → Store → R (Option D)) : List D → Store → R (List D)
  | [], st => .ok [] st
  | x :: xs, st => match f x st with
    | .ok o s1 => match loopC f xs s1 with
      | .ok ys s2 => .ok (match o with | some y => y :: ys | none => ys) s2
      | _ => .stuck
    | _ => .stuck
/-- a part of a slice -/
def evo (e : Ex) (st : Store) (r : R D) : R (Option Int) := match e with
  | .nil => .ok none st
  | _ => r.bind fun x s1 => match x with
    | .int i => .ok (some i) s1
    | _ => .stuck
def tst (r : R D) : R Bool := r.bind fun x s => match x with
  | .bl b => .ok b s
  | _ => .stuck
def rngD (i j : Int) : Option D := if decide (-(2 ^ 62) ≤ i) && decide (i < 2 ^ 62) && decide (-(2 ^ 62) ≤ j) && decide (j < 2 ^ 62) then
  some (.lst ((List.range (j - i).toNat).map fun (k : Nat) => .int (i + k))) else none
def enmL : Nat → List D → List D
  | _, [] => []
  | k, x :: xs => .tup [.int k, x] :: enmL (k + 1) xs
def zipL : List D → List D → List D
  | x :: xs, y :: ys => .tup [x, y] :: zipL xs ys
  | _, _ => []

/-- repr(..) of data -/
def rprD (d : D) : Option D := match D.p d with
  | some p => if PyData.showable p && !PyData.hasDict p && decide (p.depth ≤ 60) && fits p.shown.length then some (.str p.shown) else none
  | none => none
section
variable (P : Pt) (G : Fns) (X : Xh)
mutual
def ev : Ex → List Sl → Store → R D
  | .nil, _, _ => .stuck
  | .var i, env, st => match env[i]? with
    | some (.d d) => .ok d st
    | _ => .stuck
  | .lit d, _, st => .ok d st
  | .glb x, _, st => lift (P.gl x) st
  | .bin o a b, env, st => (brw env a st (ev a env st)).bind fun x s1 => (brw env b s1 (ev b env s1)).bind fun y s2 => lift (opB o (der s2 x) (der s2 y)) s2
  | .neg a, env, st => (ev a env st).bind fun x s1 => match x with
    | .int i => .ok (.int (-i)) s1
    | _ => .stuck
  | .cmp o a b, env, st => (brw env a st (ev a env st)).bind fun x s1 => (brw env b s1 (ev b env s1)).bind fun y s2 => lift ((cmB o (der s2 x) (der s2 y)).map .bl) s2
  | .chn o p a b c, env, st => (ev a env st).bind fun x s1 => (ev b env s1).bind fun y s2 => match cmB o x y with
    | some true => (ev c env s2).bind fun z s3 => lift ((cmB p y z).map .bl) s3
    | some false => .ok (.bl false) s2
    | none => .stuck
  | .not a, env, st => (ev a env st).bind fun x s1 => match x with
    | .bl b => .ok (.bl (!b)) s1
    | _ => .stuck
  | .and a b, env, st => (ev a env st).bind fun x s1 => match x with
    | .bl true => ev b env s1
    | .bl false => .ok (.bl false) s1
    | _ => .stuck
  | .or a b, env, st => (ev a env st).bind fun x s1 => match x with
    | .bl true => .ok (.bl true) s1
    | .bl false => ev b env s1
    | _ => .stuck
  | .one a, env, st => ev a env st
  | .ite t a b, env, st => (ev t env st).bind fun x s1 => match x with
    | .bl true => ev a env s1
    | .bl false => ev b env s1
    | _ => .stuck
  | .call f as, env, st => (evs as env st).bind fun ds s1 => G.call f ds s1
  | .callv i as, env, st => match env[i]? with
    | some (.d (.fn f)) => if P.isFn f then (evs as env st).bind fun ds s1 => G.call f ds s1 else .stuck
    | _ => .stuck
  | .mk c as, env, st => (evs as env st).bind fun ds s1 => G.make c ds s1
  | .meth o m as, env, st => (ev o env st).bind fun x s1 => match der s1 x with
    | .obj c fs => match fs.lookup m, P.meth c m with
      | none, some f => (evs as env s1).bind fun ds s2 => G.call f (x :: ds) s2
      | _, _ => .stuck
    | _ => .stuck
  | .bf b as, env, st => (evb as env st).bind fun ds s1 => lift (bfD b (ds.map (der s1))) s1
  | .bm o m as, env, st => .stuck
  | .isi e ts, env, st => (brw env e st (ev e env st)).bind fun x s1 => match der s1 x with
    | .fn _ => .stuck
    | .loc _ => .stuck
    | .obj _ _ => .stuck
    | d => .ok (.bl (ts.any (isT1 · d))) s1
  | .isc e c, env, st => (brw env e st (ev e env st)).bind fun x s1 => if P.own c then (match der s1 x with
    | .fn _ => .stuck
    | .loc _ => .stuck
    | .obj c' _ => if c' = c then .ok (.bl true) s1 else .stuck
    | _ => .ok (.bl false) s1) else .stuck
  | .att o f, env, st => (brw env o st (ev o env st)).bind fun x s1 => match der s1 x with
    | .obj c fs => if P.isAt c f then lift (fs.lookup f) s1 else .stuck
    | _ => .stuck
  | .idx o i, env, st => (brw env o st (ev o env st)).bind fun x s1 => (ev i env s1).bind fun y s2 => lift (idxD (der s2 x) y) s2
  | .slc o lo hi, env, st => (brw env o st (ev o env st)).bind fun x s1 => (evo lo s1 (ev lo env s1)).bind fun l s2 => (evo hi s2 (ev hi env s2)).bind fun h s3 => lift (slcD (der s3 x) l h) s3
  | .tup es, env, st => (evs es env st).bind fun ds s1 => if fits ds.length then .ok (.tup ds) s1 else .stuck
  | .lst es, env, st => (evs es env st).bind fun ds s1 => if fits ds.length then .ok (.lst ds) s1 else .stuck
  | .cpr elt own tg it ifs, env, st => (brw env it st (ev it env st)).bind fun x s1 => match itemsD x with
    | some xs => if xs.length < big then (loopC (fun y s => match asgT tg y (wipeE env own) with
        | some env2 => (match ifs with
          | .nil => (ev elt env2 s).bind fun z s2 => .ok (some z) s2
          | _ => (tst (ev ifs env2 s)).bind fun b s2 => if b then (ev elt env2 s2).bind fun z s3 => .ok (some z) s3 else .ok none s2)
        | none => .stuck) xs s1).bind fun ys s2 => .ok (.lst ys) s2 else .stuck
    | none => .stuck
  | .rng a b, env, st => (ev a env st).bind fun x s1 => (ev b env s1).bind fun y s2 => match x, y with
    | .int i, .int j => lift (rngD i j) s2
    | _, _ => .stuck
  | .enm e, env, st => (ev e env st).bind fun x s1 => lift ((itemsD x).map fun xs => .lst (enmL 0 xs)) s1
  | .zip a b, env, st => (ev a env st).bind fun x s1 => (ev b env s1).bind fun y s2 => match x, y with
    | .lst xs, .lst ys => .ok (.lst (zipL xs ys)) s2
    | .tup xs, .tup ys => .ok (.lst (zipL xs ys)) s2
    | _, _ => .stuck
  | .xat i f, env, st => match env[i]?, X with
    | some .xc, some q => lift (q.2.lookup f) st
    | _, _ => .stuck
  | .xis i t, env, st => match env[i]?, X with
    | some .xc, some q => lift ((P.xis q.1 t).map .bl) st
    | _, _ => .stuck
  | .xkf _ ns as f, env, st => (evs as env st).bind fun ds s1 => if ds.length = ns.length then lift ((ns.zip ds).lookup f) s1 else .stuck
  | .rpr a, env, st => (brw env a st (ev a env st)).bind fun x s1 => lift (rprD (der s1 x)) s1
  | .lrn a b, env, st => (ev a env st).bind fun x s1 => (ev b env s1).bind fun y s2 => match x, y with
    | .int i, .int j => if fits (j - i).toNat then lift (rngD i j) s2 else .stuck
    | _, _ => .stuck
  | .oeq n a b, env, st => (ev a env st).bind fun x s1 => (ev b env s1).bind fun y s2 => match x with
    | .obj c fs => (match P.eqf c with
      | some f => if okEq c y then (match G.call f [.obj c fs, y] s2 with
        | .ok (.bl r) s3 => .ok (.bl (if n then !r else r)) s3
        | _ => .stuck) else .stuck
      | none => .stuck)
    | _ => .stuck
def evs : List Ex → List Sl → Store → R (List D)
  | [], _, st => .ok [] st
  | e :: es, env, st => (ev e env st).bind fun x s1 => (evs es env s1).bind fun xs s2 => .ok (x :: xs) s2
def evb : List Ex → List Sl → Store → R (List D)
  | [], _, st => .ok [] st
  | e :: es, env, st => (brw env e st (ev e env st)).bind fun x s1 => (evb es env s1).bind fun xs s2 => .ok (x :: xs) s2
end
end

/-- a value for a slot: by itself, or to be held alone -/
def toSl (b : Bool) (d : D) : Option Sl := if b then (match d with
  | .lst xs => some (.ow (.lst xs))
  | _ => none) else some (.d d)
def evm1 (P : Pt) (G : Fns) (X : Xh) (b : Bool) (e : Ex) (env : List Sl) (st : Store) : R Sl := (ev P G X e env st).bind fun d s => lift (toSl b d) s
def evm (P : Pt) (G : Fns) (X : Xh) : List (Bool × Ex) → List Sl → Store → R (List Sl)
  | [], _, st => .ok [] st
  | (b, e) :: es, env, st => (evm1 P G X b e env st).bind fun x s => (evm P G X es env s).bind fun xs s2 => .ok (x :: xs) s2
/-- slot 0 takes nothing of its own -/
def okSl : Nat → Sl → Bool
  | 0, .ow _ => false
  | _, _ => true
def setAllS : List Sl → List Nat → List Sl → Option (List Sl)
  | env, [], [] => some env
  | env, i :: is, x :: xs => if okSl i x then (setSl env i x).bind fun e => setAllS e is xs else none
  | _, _, _ => none
inductive RS where
  | nx (env : List Sl) (s : Store) | rt (d : D) (s : Store) | exc (c : Nat) (fs : List D) (env : List Sl) (s : Store) | stuck
def R.st {α : Type} (r : R α) (env : List Sl) (f : α → Store → RS) : RS := match r with
  | .ok a s => f a s
  | .exc c fs s => .exc c fs env s
  | .stuck => .stuck
def RS.then (r : RS) (f : List Sl → Store → RS) : RS := match r with
  | .nx env s => f env s
  | r => r
/-- no exception at hand any more -/
def unx (env : List Sl) : List Sl := env.map fun s => match s with
  | .xc => .no
  | s => s
/-- how an except suite ends -/
def RS.end_ (i : Nat) : RS → RS
  | .nx e s => .nx ((unx e).set i .no) s
  | .rt d s => .rt d s
  | _ => .stuck
def RS.end0 : RS → RS
  | .nx e s => .nx (unx e) s
  | .rt d s => .rt d s
  | _ => .stuck
def liftS {α : Type} (o : Option α) (f : α → RS) : RS := match o with
  | some a => f a
  | none => .stuck
def loopF (f : D → List Sl → Store → RS) : List D → List Sl → Store → RS
  | [], env, st => .nx env st
  | x :: xs, env, st => (f x env st).then fun e s => loopF f xs e s
/-- while: n turns at most -/
def loopW (t : List Sl → Store → R Bool) (f : List Sl → Store → RS) : Nat → List Sl → Store → RS
  | 0, _, _ => .stuck
  | n + 1, env, st => (t env st).st env fun b s => if b then (f env s).then fun e s1 => loopW t f n e s1 else .nx env s
def D.toCell : D → Option Cell
  | .lst xs => some (.lst xs)
  | _ => none
/-- a change of the list that slot i holds, by its own or in the store -/
def chg (env : List Sl) (st : Store) (i : Nat) (f : Cell → Option Cell) : RS := match env[i]? with
  | some (.ow c) => liftS (f c) fun c' => .nx (env.set i (.ow c')) st
  | some (.d (.loc l)) => match st[l]? with
    | some c => liftS (f c) fun c' => .nx env (st.set l c')
    | none => .stuck
  | _ => .stuck
/-- slot i holds a list -/
def slL (env : List Sl) (st : Store) (i : Nat) : Option Unit := match env[i]? with
  | some (.ow (.lst _)) => some ()
  | some (.d (.loc l)) => match st[l]? with
    | some (.lst _) => some ()
    | _ => none
  | _ => none
/-- slot i holds what may change -/
def slA (env : List Sl) (i : Nat) : Option Unit := match env[i]? with
  | some (.ow _) => some ()
  | some (.d (.loc _)) => some ()
  | _ => none
def putF (n : Nat) (d : D) : List (Nat × D) → List (Nat × D)
  | [] => [(n, d)]
  | (m, x) :: r => if m = n then (m, d) :: r else (m, x) :: putF n d r

section
variable (P : Pt) (G : Fns) (sup : Nat → Nat → Option Bool) (xf : Nat → List Nat)
mutual
def ex (X : Xh) : Sm → List Sl → Store → RS
  | .asg t e, env, st => (ev P G X e env st).st env fun x s => liftS (asgT t x env) fun env2 => .nx env2 s
  | .mas is es, env, st => (evm P G X es env st).st env fun xs s => liftS (setAllS env is xs) fun env2 => .nx env2 s
  | .own i e, env, st => (evm1 P G X true e env st).st env fun x s => liftS (setAllS env [i] [x]) fun env2 => .nx env2 s
  | .new i e, env, st => (ev P G X e env st).st env fun x s => liftS (D.toCell x) fun c => liftS (setSl env i (.d (.loc s.length))) fun env2 => .nx env2 (s ++ [c])
  | .frz i, env, st => match env[i]? with
    | some (.ow c) => if i = 0 then .stuck else .nx (env.set i (.d c.toD)) st
    | _ => .stuck
  | .aug i o e, env, st => match env[i]? with
    | some (.d x) => (ev P G X e env st).st env fun y s => match x, y with
      | .int a, .int b => liftS (opB o (.int a) (.int b)) fun z => .nx (env.set i (.d z)) s
      | _, _ => .stuck
    | _ => .stuck
  | .app i e, env, st => liftS (slL env st i) fun _ => (ev P G X e env st).st env fun x s => chg env s i fun c => match c with
    | .lst xs => if xs.length < big then some (.lst (xs ++ [x])) else none
    | _ => none
  | .ext i e, env, st => liftS (slL env st i) fun _ => (brw env e st (ev P G X e env st)).st env fun x s => chg env s i fun c => match c, der s x with
    | .lst xs, .lst ys => if fits (xs.length + ys.length) then some (.lst (xs ++ ys)) else none
    | .lst xs, .tup ys => if fits (xs.length + ys.length) then some (.lst (xs ++ ys)) else none
    | _, _ => none
  | .ins i a e, env, st => liftS (slL env st i) fun _ => (ev P G X a env st).st env fun k s => (ev P G X e env s).st env fun x s1 => chg env s1 i fun c => match c, k with
    | .lst xs, .int k => if 0 ≤ k ∧ k ≤ xs.length ∧ xs.length < big then some (.lst (xs.take k.toNat ++ x :: xs.drop k.toNat)) else none
    | _, _ => none
  | .sti i k e, env, st => liftS (slA env i) fun _ => (ev P G X e env st).st env fun x s => (ev P G X k env s).st env fun k s1 => chg env s1 i fun c => match c, k with
    | .lst xs, .int k => (ixD xs.length k).map fun j => .lst (xs.set j x)
    | _, _ => none
  | .sta i f e, env, st => liftS (slA env i) fun _ => (ev P G X e env st).st env fun x s => chg env s i fun c => match c with
    | .ins c fs => if P.isAt c f && decide (fs.length < 900) then some (.ins c (putF f x fs)) else none
    | _ => none
  | .exp e, env, st => (ev P G X e env st).st env fun _ s => .nx env s
  | .ret e, env, st => (brw env e st (ev P G X e env st)).st env fun x s => .rt x s
  | .retN, env, st => .rt .non st
  | .pass, env, st => .nx env st
  | .iff t a b, env, st => (tst (ev P G X t env st)).st env fun c s => if c then exs X a env s else exs X b env s
  | .whl t b, env, st => loopW (fun env st => tst (ev P G X t env st)) (fun env st => exs X b env st) G.fuel env st
  | .for_ tg it b, env, st => (ev P G X it env st).st env fun x s => liftS (itemsD x) fun xs => loopF (fun y e s => liftS (asgT tg y e) fun e2 => exs X b e2 s) xs env s
  | .rai c as, env, st => (evs P G X as env st).st env fun ds s => if ds.length = (xf c).length then .exc c ds env s else .stuck
  | .try_ b c n u, env, st => match exs X b env st with
    | .exc c' fs env2 s => match sup c' c with
      | some true => (match n with
        | some i => (exs (some (c', (xf c').zip fs)) u ((unx env2).set i .xc) s).end_ i
        | none => (exs none u (unx env2) s).end0)
      | some false => .exc c' fs env2 s
      | none => .stuck
    | r => r
def exs (X : Xh) : List Sm → List Sl → Store → RS
  | [], env, st => .nx env st
  | s :: r, env, st => (ex X s env st).then fun e s1 => exs X r e s1
end
end

/-- a def: how many parameters, how many slots, its body; init: it is an __init__ -/
structure Fd where
  np : Nat
  ns : Nat
  body : List Sm
structure Pg where
  fns : Nat → Option Fd
  cls : Nat → Option Nat
  pt : Pt
  sup : Nat → Nat → Option Bool
  xf : Nat → List Nat
  fuel : Nat
def startE (n : Nat) (ds : List D) : List Sl := ds.map Sl.d ++ List.replicate (n - ds.length) Sl.no
/-- calls, n deep -/
def run (Q : Pg) : Nat → Fns
  | 0 => ⟨fun _ _ _ => .stuck, fun _ _ _ => .stuck, Q.fuel⟩
  | n + 1 => ⟨fun f ds st => match Q.fns f with
      | some d => if ds.length = d.np then (match exs Q.pt (run Q n) Q.sup Q.xf none d.body (startE d.ns ds) st with
        | .nx _ s => .ok .non s
        | .rt x s => .ok x s
        | .exc c fs _ s => .exc c fs s
        | .stuck => .stuck) else .stuck
      | none => .stuck,
    fun c ds st => match Q.cls c with
      | some f => match Q.fns f with
        | some d => if ds.length + 1 = d.np then (match exs Q.pt (run Q n) Q.sup Q.xf none d.body (.ow (.ins c []) :: startE (d.ns - 1) ds) st with
          | .nx (.ow (.ins c' fs) :: _) s => if c' = c then .ok (.obj c fs) s else .stuck
          | .exc c fs _ s => .exc c fs s
          | _ => .stuck) else .stuck
        | none => .stuck
      | none => .stuck, Q.fuel⟩
end Iv

set_option Elab.async false
set_option linter.all false
set_option maxRecDepth 100000
set_option maxHeartbeats 4000000
/-! IvC: what it is that an expression of the machine does what ev says; first rules. -/
namespace Iv
open PySem PySem.Spec L2
open PyProof.Rows hiding St

/-- what is fixed in a block: the tables, where the instance of slot 0 lies (in an __init__), what is wanted of exceptions, the exception at hand (its fields, its dict) -/
structure Cf where
  T : Tab
  me : Me
  W : WX
  xh : Xh
  dd : Option Addr
/-- the exception's dict, if it has one, holds these fields -/
def XhAt (B : Base) (ω : Wd) (H : Hp) (dx : Option Addr) (fs : List (Nat × D)) : Prop := (dx = none ∧ fs = []) ∨ ∃ dd vs, dx = some dd ∧ H dd = some (.xd vs) ∧ ¬ ω.L dd ∧ ∀ n d, fs.lookup n = some d → ∃ v, vs.lookup (B.T.nm n) = some v ∧ RelD B ω H d v
def XhOk (B : Base) (ω : Wd) (H : Hp) (C : Cf) : Prop := match C.xh with
  | none => True
  | some q => XhAt B ω H C.dd q.2
structure Sim (B : Base) (C : Cf) (ω : Wd) (env : List Sl) (st : Store) (σ : St) (H : Hp) : Prop where
  env : SimEnv B ω C.me env σ H
  st : SimSt B ω st H
  xh : XhOk B ω H C
/-- the fields of a raised exception -/
def XFs (B : Base) (ω : Wd) (H : Hp) (ns : List Nat) (fs : List D) (vs : List (Str × V)) : Prop :=
  ∀ n d, (ns.zip fs).lookup n = some d → ∃ v, vs.lookup (B.T.nm n) = some v ∧ RelD B ω H d v
/-- what a raised exception carries -/
def XOk (B : Base) (ω : Wd) (H : Hp) (c : Nat) (fs : List D) (dx : Option Addr) : Prop := match dx with
  | some dd => ∃ vs, H dd = some (.xd vs) ∧ ¬ ω.L dd ∧ XFs B ω H (B.T.xf c) fs vs
  | none => B.T.xp c = true ∧ B.T.xf c = []
def Post {α : Type} (B : Base) (W : WX) (ω : Wd) (H : Hp) (σ : St) (r : R α) (k : α → Store → Wd → Hp → Prop) : Prop := match r with
  | .ok a st' => ∀ ω' H', Ext ω H ω' H' → SimSt B ω' st' H' → k a st' ω' H'
  | .exc c fs st' => ∀ ω' H' dx, Ext ω H ω' H' → SimSt B ω' st' H' → XOk B ω' H' c fs dx → W (.ref (B.T.xa c)) dx σ H'
  | .stuck => False

/-- lent for a while: as it is by itself, or a thing of the frame's own -/
def Bw (B : Base) (ω : Wd) (H : Hp) (d : D) (v : V) : Prop := RelD B ω H d v ∨ ∃ c a, d = Cell.toD c ∧ v = .ref a ∧ CellAt B ω H a c ∧ ω.O a
/-- looked at now -/
def Vw (B : Base) (ω : Wd) (H : Hp) (d : D) (v : V) : Prop := RelD B ω H d v ∨ ∃ c a, d = Cell.toD c ∧ v = .ref a ∧ CellAt B ω H a c

section
variable {B : Base} {C : Cf} {ω ω' ω1 : Wd} {H H' H1 : Hp} {σ : St} {env : List Sl} {st st' : Store}
theorem XhAt.keep {B : Base} {ω ω' : Wd} {H H' : Hp} {dx : Option Addr} {fs : List (Nat × D)} (h : XhAt B ω H dx fs) (k : Keep ω H ω' H') : XhAt B ω' H' dx fs := by
  rcases h with h | ⟨dd, vs, hd, h1, h2, h3⟩
  · exact .inl h
  · obtain ⟨h1', h2'⟩ := k.at_ _ _ h1 h2
    exact .inr ⟨dd, vs, hd, h1', h2', fun n d hn => let ⟨v, q1, q2⟩ := h3 n d hn; ⟨v, q1, q2.keep k⟩⟩
theorem XhOk.ext (h : XhOk B ω H C) (e : Ext ω H ω' H') : XhOk B ω' H' C := by
  unfold XhOk at h ⊢
  cases hx : C.xh with
  | none => trivial
  | some fs =>
    rw [hx] at h
    exact XhAt.keep h e.keep
theorem Sim.ext (s : Sim B C ω env st σ H) (e : Ext ω H ω' H') (z : SimSt B ω' st' H') : Sim B C ω' env st' σ H' := ⟨s.env.ext e st s.st, z, s.xh.ext e⟩
theorem Post.mono {α : Type} {W : WX} {r : R α} {k : α → Store → Wd → Hp → Prop} (h : Post B W ω H σ r k) (e : Ext ω H ω1 H1) : Post B W ω1 H1 σ r k := by
  cases r with
  | ok a s => exact fun ω' H' e' z => h ω' H' (e.trans e') z
  | exc c fs s => exact fun ω' H' dx e' z a => h ω' H' dx (e.trans e') z a
  | stuck => exact h
theorem Post.imp {α : Type} {W : WX} {r : R α} {k k' : α → Store → Wd → Hp → Prop} (h : Post B W ω H σ r k) (f : ∀ a s ω' H', Ext ω H ω' H' → SimSt B ω' s H' → k a s ω' H' → k' a s ω' H') : Post B W ω H σ r k' := by
  cases r with
  | ok a s => exact fun ω' H' e' z => f a s ω' H' e' z (h ω' H' e' z)
  | exc c fs s => exact h
  | stuck => exact h
theorem Bw.ext {d : D} {v : V} (h : Bw B ω H d v) (s : SimSt B ω st H) (e : Ext ω H ω' H') : Bw B ω' H' d v := by
  rcases h with h | ⟨c, a, h1, h2, h3, h4⟩
  · exact .inl (h.keep e.keep)
  · exact .inr ⟨c, a, h1, h2, h3.keep e.keep fun o q => (e.at_ a o q fun ⟨l, hl⟩ => s.noO l a hl h4).1, by rw [e.O]; exact h4⟩
theorem Bw.vw {d : D} {v : V} (h : Bw B ω H d v) : Vw B ω H d v := h.imp id fun ⟨c, a, h1, h2, h3, _⟩ => ⟨c, a, h1, h2, h3⟩
theorem der_vw {d : D} {v : V} (h : Bw B ω H d v) (s : SimSt B ω st H) : Vw B ω H (der st d) v := by
  unfold der
  split
  · rename_i l
    rcases h with h | ⟨c, a, h1, h2, h3, h4⟩
    · cases h with
      | loc hl =>
        rename_i a
        cases e : st[l]? with
        | none => exact .inl (.loc hl)
        | some c =>
          obtain ⟨b, h1, h2⟩ := s.cells l c e
          rw [hl] at h1; cases h1
          exact .inr ⟨c, a, rfl, rfl, h2⟩
    · cases c <;> cases h1
  · exact h.vw
/-! shapes -/
theorem Vw.int {i : Int} {v : V} (h : Vw B ω H (.int i) v) : v = .int i := by
  rcases h with h | ⟨c, a, h1, _⟩
  · cases h; rfl
  · cases c <;> cases h1
theorem Vw.bl {i : Bool} {v : V} (h : Vw B ω H (.bl i) v) : v = .bl i := by
  rcases h with h | ⟨c, a, h1, _⟩
  · cases h; rfl
  · cases c <;> cases h1
theorem Vw.str {i : Str} {v : V} (h : Vw B ω H (.str i) v) : v = .str i := by
  rcases h with h | ⟨c, a, h1, _⟩
  · cases h; rfl
  · cases c <;> cases h1
theorem Vw.non {v : V} (h : Vw B ω H .non v) : v = .non := by
  rcases h with h | ⟨c, a, h1, _⟩
  · cases h; rfl
  · cases c <;> cases h1
theorem Vw.tup {xs : List D} {v : V} (h : Vw B ω H (.tup xs) v) : ∃ a vs, v = .ref a ∧ TupAt B ω H a vs ∧ RelDs B ω H xs vs := by
  rcases h with h | ⟨c, a, h1, _⟩
  · cases h with | tup h1 h2 => exact ⟨_, _, rfl, h1, h2⟩
  · cases c <;> cases h1
theorem Vw.lst {xs : List D} {v : V} (h : Vw B ω H (.lst xs) v) : ∃ a vs, v = .ref a ∧ SqL B.K H a vs ∧ RelDs B ω H xs vs := by
  rcases h with h | ⟨c, a, h1, h2, h3⟩
  · cases h with | lst h1 h2 => exact ⟨_, _, rfl, h1.sq, h2⟩
  · cases c with
    | lst ys =>
      cases h1
      obtain ⟨vs, q1, q2⟩ := h3
      exact ⟨a, vs, h2, .of q1, q2⟩
    | ins c fs => cases h1
theorem Vw.obj {c : Nat} {fs : List (Nat × D)} {v : V} (h : Vw B ω H (.obj c fs) v) : ∃ a dx vs, v = .ref a ∧ H a = some (.ins (B.T.ca c) dx vs) ∧ RelFs B ω H fs vs := by
  rcases h with h | ⟨c, a, h1, h2, h3⟩
  · cases h with | obj h1 n h2 => exact ⟨_, _, _, rfl, h1, h2⟩
  · cases c with
    | lst ys => cases h1
    | ins c fs =>
      cases h1
      obtain ⟨dx, vs, q1, q2⟩ := h3
      exact ⟨a, dx, vs, h2, q1, q2⟩

/-! ### readings -/
abbrev Ev (α : Type) := List Sl → Store → R α
def tI (B : Base) (C : Cf) (f : Ev D) : TE := fun σ H Q => ∃ ω env st, Sim B C ω env st σ H ∧ Post B C.W ω H σ (f env st) fun d _ ω' H' => ∀ v, RelD B ω' H' d v → Q v H'
def tW (B : Base) (C : Cf) (f : Ev D) : TE := fun σ H Q => ∃ ω env st, Sim B C ω env st σ H ∧ Post B C.W ω H σ (f env st) fun d _ ω' H' => ∀ v, Bw B ω' H' d v → Q v H'
def tT (B : Base) (C : Cf) (f : Ev Bool) : TT := fun σ H Q => ∃ ω env st, Sim B C ω env st σ H ∧ Post B C.W ω H σ (f env st) fun b _ ω' H' => Q b H'
def tA (B : Base) (C : Cf) (f : Ev (List D)) : TA := fun σ H Q => ∃ ω env st, Sim B C ω env st σ H ∧ Post B C.W ω H σ (f env st) fun ds _ ω' H' => ∀ vs, RelDs B ω' H' ds vs → Q vs H'
/-- lent arguments -/
inductive Bws (B : Base) (ω : Wd) (H : Hp) : List D → List V → Prop
  | nil : Bws B ω H [] []
  | cons {d ds v vs} : Bw B ω H d v → Bws B ω H ds vs → Bws B ω H (d :: ds) (v :: vs)
def tAw (B : Base) (C : Cf) (f : Ev (List D)) : TA := fun σ H Q => ∃ ω env st, Sim B C ω env st σ H ∧ Post B C.W ω H σ (f env st) fun ds _ ω' H' => ∀ vs, Bws B ω' H' ds vs → Q vs H'

theorem tI.step {α : Type} {g : Ev D} {h : D → Store → R α} {k : α → Store → Wd → Hp → Prop} (S : Sim B C ω env st σ H) (hp : Post B C.W ω H σ ((g env st).bind h) k) {Q : VK}
    (kk : ∀ a s1 ω1 H1 v, Ext ω H ω1 H1 → Sim B C ω1 env s1 σ H1 → RelD B ω1 H1 a v → Post B C.W ω1 H1 σ (h a s1) k → Q v H1) : tI B C g σ H Q := by
  refine ⟨ω, env, st, S, ?_⟩
  cases e : g env st with
  | ok a s1 =>
    rw [e] at hp
    exact fun ω1 H1 e1 z v r => kk a s1 ω1 H1 v e1 (S.ext e1 z) r (Post.mono hp e1)
  | exc c fs s1 => rw [e] at hp; exact hp
  | stuck => rw [e] at hp; exact hp
theorem tW.step {α : Type} {g : Ev D} {h : D → Store → R α} {k : α → Store → Wd → Hp → Prop} (S : Sim B C ω env st σ H) (hp : Post B C.W ω H σ ((g env st).bind h) k) {Q : VK}
    (kk : ∀ a s1 ω1 H1 v, Ext ω H ω1 H1 → Sim B C ω1 env s1 σ H1 → Bw B ω1 H1 a v → Post B C.W ω1 H1 σ (h a s1) k → Q v H1) : tW B C g σ H Q := by
  refine ⟨ω, env, st, S, ?_⟩
  cases e : g env st with
  | ok a s1 =>
    rw [e] at hp
    exact fun ω1 H1 e1 z v r => kk a s1 ω1 H1 v e1 (S.ext e1 z) r (Post.mono hp e1)
  | exc c fs s1 => rw [e] at hp; exact hp
  | stuck => rw [e] at hp; exact hp
theorem tT.step {α : Type} {g : Ev Bool} {h : Bool → Store → R α} {k : α → Store → Wd → Hp → Prop} (S : Sim B C ω env st σ H) (hp : Post B C.W ω H σ ((g env st).bind h) k) {Q : Bool → Hp → Prop}
    (kk : ∀ a s1 ω1 H1, Ext ω H ω1 H1 → Sim B C ω1 env s1 σ H1 → Post B C.W ω1 H1 σ (h a s1) k → Q a H1) : tT B C g σ H Q := by
  refine ⟨ω, env, st, S, ?_⟩
  cases e : g env st with
  | ok a s1 =>
    rw [e] at hp
    exact fun ω1 H1 e1 z => kk a s1 ω1 H1 e1 (S.ext e1 z) (Post.mono hp e1)
  | exc c fs s1 => rw [e] at hp; exact hp
  | stuck => rw [e] at hp; exact hp
theorem tA.step {α : Type} {g : Ev (List D)} {h : List D → Store → R α} {k : α → Store → Wd → Hp → Prop} (S : Sim B C ω env st σ H) (hp : Post B C.W ω H σ ((g env st).bind h) k) {Q : List V → Hp → Prop}
    (kk : ∀ a s1 ω1 H1 v, Ext ω H ω1 H1 → Sim B C ω1 env s1 σ H1 → RelDs B ω1 H1 a v → Post B C.W ω1 H1 σ (h a s1) k → Q v H1) : tA B C g σ H Q := by
  refine ⟨ω, env, st, S, ?_⟩
  cases e : g env st with
  | ok a s1 =>
    rw [e] at hp
    exact fun ω1 H1 e1 z v r => kk a s1 ω1 H1 v e1 (S.ext e1 z) r (Post.mono hp e1)
  | exc c fs s1 => rw [e] at hp; exact hp
  | stuck => rw [e] at hp; exact hp
theorem tAw.step {α : Type} {g : Ev (List D)} {h : List D → Store → R α} {k : α → Store → Wd → Hp → Prop} (S : Sim B C ω env st σ H) (hp : Post B C.W ω H σ ((g env st).bind h) k) {Q : List V → Hp → Prop}
    (kk : ∀ a s1 ω1 H1 v, Ext ω H ω1 H1 → Sim B C ω1 env s1 σ H1 → Bws B ω1 H1 a v → Post B C.W ω1 H1 σ (h a s1) k → Q v H1) : tAw B C g σ H Q := by
  refine ⟨ω, env, st, S, ?_⟩
  cases e : g env st with
  | ok a s1 =>
    rw [e] at hp
    exact fun ω1 H1 e1 z v r => kk a s1 ω1 H1 v e1 (S.ext e1 z) r (Post.mono hp e1)
  | exc c fs s1 => rw [e] at hp; exact hp
  | stuck => rw [e] at hp; exact hp
/-- a value at hand -/
theorem Post.here {α : Type} {W : WX} {a : α} {k : α → Store → Wd → Hp → Prop} (h : Post B W ω H σ (.ok a st) k) (z : SimSt B ω st H) : k a st ω H := h ω H .refl z
/-- a new object -/
theorem Post.new {α : Type} {W : WX} {a : α} {k : α → Store → Wd → Hp → Prop} {p : Addr} {o : HO} (h : Post B W ω H σ (.ok a st) k) (z : SimSt B ω st H) (hp : H p = none) : k a st ω (upd H p o) := h ω _ (.new hp) (z.new hp)
/-- an answer that may lack -/
theorem Post.lift {α : Type} {W : WX} {o : Option α} {k : α → Store → Wd → Hp → Prop} (h : Post B W ω H σ (lift o st) k) : ∃ a, o = some a ∧ Post B W ω H σ (.ok a st) k := by
  cases o with
  | none => exact h.elim
  | some a => exact ⟨a, rfl, h⟩
end

/-! ### judgements -/
theorem pe_weak {X : Cx} {e : Expr} {t t' : TE} (h : PE X e t) (w : ∀ σ H Q, t' σ H Q → t σ H Q) : PE X e t' := ⟨fun pins s σ H Q I q => h.run pins s σ H Q I (w _ _ _ q)⟩
theorem pt_weak {X : Cx} {e : Expr} {t t' : TT} (h : PT X e t) (w : ∀ σ H Q, t' σ H Q → t σ H Q) : PT X e t' := ⟨fun pins s σ H Q I q => h.run pins s σ H Q I (w _ _ _ q)⟩
theorem pw_weak {X : Cx} {e : Expr} {t t' : TT} (h : PW X e t) (w : ∀ σ H Q, t' σ H Q → t σ H Q) : PW X e t' := ⟨fun wh pins s σ H Q I q => h.run wh pins s σ H Q I (w _ _ _ q)⟩
theorem pa_weak {X : Cx} {e : List Expr} {t t' : TA} (h : PA X e t) (w : ∀ σ H Q, t' σ H Q → t σ H Q) : PA X e t' := ⟨fun pos pins s σ H Q I q => h.run pos pins s σ H Q I (w _ _ _ q)⟩
theorem ps_weak {X : Cx} {e : Stmt} {t t' : TS} (h : PS X e t) (w : ∀ D σ H, t' D σ H → t D σ H) : PS X e t' := ⟨fun pins s σ H D I q => h.run pins s σ H D I (w _ _ _ q)⟩
theorem pss_weak {X : Cx} {e : List Stmt} {t t' : TS} (h : PSs X e t) (w : ∀ D σ H, t' D σ H → t D σ H) : PSs X e t' := ⟨fun pins s σ H D I q => h.run pins s σ H D I (w _ _ _ q)⟩
theorem pe_orr {X : Cx} {e : Expr} {t t' : TE} (h : PE X e t) (h' : PE X e t') : PE X e (fun σ H Q => t σ H Q ∨ t' σ H Q) := ⟨fun pins s σ H Q I q => q.elim (h.run pins s σ H Q I) (h'.run pins s σ H Q I)⟩
theorem pe_never {X : Cx} {e : Expr} : PE X e (fun _ _ _ => False) := ⟨fun _ _ _ _ _ _ q => q.elim⟩

section
variable {X : Cx} {C : Cf} {P : Pt} {G : Fns} {a b c e : Expr} {ia ib ic : Ex} {pos : Pos}
abbrev bs (X : Cx) (C : Cf) : Base := ⟨X.K, C.T⟩
/-- THE CLAIM for an expression -/
abbrev OkE (X : Cx) (C : Cf) (P : Pt) (G : Fns) (i : Ex) (e : Expr) : Prop := PE X e (tI (bs X C) C (ev P G C.xh i))
/-- .. lent -/
abbrev OkW (X : Cx) (C : Cf) (P : Pt) (G : Fns) (i : Ex) (e : Expr) : Prop := PE X e (tW (bs X C) C fun env st => brw env i st (ev P G C.xh i env st))
abbrev OkT (X : Cx) (C : Cf) (P : Pt) (G : Fns) (i : Ex) (e : Expr) : Prop := PT X e (tT (bs X C) C fun env st => tst (ev P G C.xh i env st))

theorem ok_var {i : Nat} (h : PE X e (tVar i)) : OkE X C P G (.var i) e := pe_weak h fun σ H Q ⟨ω, env, st, S, q⟩ => by
  unfold ev at q
  cases hi : env[i]? with
  | none => rw [hi] at q; exact q.elim
  | some s =>
    rw [hi] at q
    cases s with
    | no => exact q.elim
    | ow c => exact q.elim
    | xc => exact q.elim
    | d x =>
      obtain ⟨v, h1, h2⟩ := S.env.val i x hi
      exact ⟨v, h1, q.here S.st v h2⟩
theorem ok_brw (h : OkE X C P G ia e) (hv : ∀ i, ia = .var i → PE X e (tVar i)) : OkW X C P G ia e := by
  cases ia with
  | var i =>
    refine pe_weak (pe_orr (hv i rfl) h) fun σ H Q ⟨ω, env, st, S, q⟩ => ?_
    dsimp only [brw] at q
    cases hi : env[i]? with
    | none =>
      rw [hi] at q
      exact .inr ⟨ω, env, st, S, q.imp fun d s ω' H' _ _ k v r => k v (.inl r)⟩
    | some s =>
      rw [hi] at q
      cases s with
      | no => exact .inr ⟨ω, env, st, S, q.imp fun d s ω' H' _ _ k v r => k v (.inl r)⟩
      | xc => exact .inr ⟨ω, env, st, S, q.imp fun d s ω' H' _ _ k v r => k v (.inl r)⟩
      | d x => exact .inr ⟨ω, env, st, S, q.imp fun d s ω' H' _ _ k v r => k v (.inl r)⟩
      | ow c =>
        obtain ⟨p, h1, h2, h3, _⟩ := S.env.own i c hi
        exact .inl ⟨_, h1, q.here S.st _ (.inr ⟨c, p, rfl, rfl, h2, h3⟩)⟩
  | _ => exact pe_weak h fun σ H Q ⟨ω, env, st, S, q⟩ => ⟨ω, env, st, S, Post.imp q fun d s ω' H' _ _ k v r => k v (.inl r)⟩
theorem ok_lit {d : D} {v : V} (h : PE X e (tC v)) (r : ∀ ω H, RelD (bs X C) ω H d v) : OkE X C P G (.lit d) e := pe_weak h fun σ H Q ⟨ω, env, st, S, q⟩ => by
  unfold ev at q
  exact q.here S.st v (r _ _)
theorem ok_glb {x : Nat} {d : D} {v : V} (hg : P.gl x = some d) (h : PE X e (tC v)) (r : ∀ ω H, RelD (bs X C) ω H d v) : OkE X C P G (.glb x) e := pe_weak h fun σ H Q ⟨ω, env, st, S, q⟩ => by
  unfold ev at q
  rw [hg] at q
  exact q.here S.st v (r _ _)
/-- two values, an operator -/
theorem tW2 {g1 g2 : Ev D} {h : D → D → Store → R D} {r : R2} {B : Base} {W : D → Prop} (hr : ∀ ω st σ H x y vx vy Q, SimSt B ω st H → Bw B ω H x vx → Bw B ω H y vy → Post B C.W ω H σ (h x y st) (fun d _ ω' H' => ∀ v, RelD B ω' H' d v → Q v H') → r vx vy H Q)
    (σ : St) (H : Hp) (Q : VK) (q : tI B C (fun env st => (g1 env st).bind fun x s1 => (g2 env s1).bind fun y s2 => h x y s2) σ H Q) : tOp r (tW B C g1) (tW B C g2) σ H Q := by
  obtain ⟨ω, env, st, S, q⟩ := q
  refine tW.step S q fun x s1 ω1 H1 vx e1 S1 r1 q1 => ?_
  refine tW.step S1 q1 fun y s2 ω2 H2 vy e2 S2 r2 q2 => ?_
  exact hr ω2 s2 σ H2 x y vx vy Q S2.st (r1.ext S1.st e2) r2 q2
end
end Iv

set_option Elab.async false
set_option linter.all false
set_option maxRecDepth 100000
set_option maxHeartbeats 4000000
/-! IvD: operators, comparisons, tests, displays, items, slices. -/
namespace Iv
open PySem PySem.Spec L2
open PyProof.Rows hiding St

theorem fits_le {n : Nat} (h : fits n = true) : n ≤ sizeLine := by
  unfold fits big at h
  rw [sizeLine_eq]
  exact of_decide_eq_true h
section
variable {B : Base} {ω : Wd} {H : Hp} {st : Store}
theorem SimSt.notL (s : SimSt B ω st H) {p : Addr} (h : H p = none) : ¬ ω.L p := fun z => by
  rcases z with z | ⟨l, z⟩
  · have q := s.trO p z
    rw [h] at q; cases q
  · have hl := s.dom l p z
    obtain ⟨a, h1, h2⟩ := s.cells l (st[l]'hl) (by simp [hl])
    rw [z] at h1; cases h1
    obtain ⟨o, ho⟩ := h2.some
    rw [h] at ho; cases ho
theorem rel_newT (s : SimSt B ω st H) {p : Addr} {vs : List V} {ds : List D} (h : H p = none) (r : RelDs B ω H ds vs) : RelD B ω (upd H p (.tup vs)) (.tup ds) (.ref p) :=
  .tup (.inl ⟨.inl upd_same, s.notL h⟩) (r.keep (Ext.new h).keep)
theorem rel_newL (s : SimSt B ω st H) {p : Addr} {vs : List V} {ds : List D} (h : H p = none) (r : RelDs B ω H ds vs) : RelD B ω (upd H p (.lst vs)) (.lst ds) (.ref p) :=
  .lst (.inl ⟨.inl upd_same, s.notL h⟩) (r.keep (Ext.new h).keep)
theorem rel_rep {ds : List D} {vs : List V} (h : RelDs B ω H ds vs) : ∀ (n : Nat), RelDs B ω H (List.replicate n ds).flatten (List.replicate n vs).flatten
  | 0 => .nil
  | n + 1 => by
    rw [List.replicate_succ, List.replicate_succ, List.flatten_cons, List.flatten_cons]
    exact h.append (rel_rep h n)
theorem RelDs.nil_iff {ds : List D} {vs : List V} (r : RelDs B ω H ds vs) : ds = [] ↔ vs = [] := by cases r <;> simp
theorem atI_rel {ds : List D} {vs : List V} {i : Int} {d : D} (r : RelDs B ω H ds vs) (h : atI ds i = some d) : ∃ v, atI vs i = some v ∧ RelD B ω H d v := by
  unfold atI at h ⊢
  rw [← r.length]
  cases e : ixN ds.length i with
  | none => rw [e] at h; cases h
  | some j =>
    rw [e] at h
    exact r.get h
end

/-! ### rules for any lists -/
section
variable {X : Cx}
def rCatL (K : PySem.W.Frag) : R2 := fun x y H Q => ∃ l b xs zs, x = .ref l ∧ y = .ref b ∧ SqL K H l xs ∧ SqL K H b zs ∧ xs.length + zs.length ≤ sizeLine ∧ ∀ p, H p = none → Q (.ref p) (upd H p (.lst (xs ++ zs)))
theorem op_catL : OpR X (binaryOp .Add) (rCatL X.K) := by
  intro pins s σ H x y v u Q I rx ry h
  obtain ⟨l, b, xs, zs, rfl, rfl, hH, hB, hz, q⟩ := h
  cases rx
  cases ry
  obtain ⟨its, r, p1, _⟩ := I.list hH
  obtain ⟨its2, r2, p2, _⟩ := I.list hB
  obtain ⟨⟨cls, dd, data, sl⟩, n, ho, hc, _, hd⟩ := p1
  obtain ⟨⟨cls2, dd2, data2, sl2⟩, n2, ho2, hc2, _, hd2⟩ := p2
  simp only at hc hd hc2 hd2
  subst hc hd hc2 hd2
  have e : its.toArray ++ its2.toArray = (its ++ its2).toArray := by simp
  refine concat_meets ⟨_, ho, rfl⟩ ⟨_, ho2, rfl⟩ noFill_list_add seq_list_add PySem.F.slot_list_add PySem.F.entry_list_add (PySem.F.args_list_add_2 _ _) (list_addW l b its.toArray its2.toArray n n2 dd dd2 sl sl2 (by simpa [← r.length, ← r2.length] using hz)) ⟨ho, ho2, ?_⟩
  rw [e]
  exact ⟨.ref _, _, I.lnew (t' := s.toks) (r.append r2) (by rw [List.length_append]; omega), rfl, q _ I.fresh⟩
def rRepL (K : PySem.W.Frag) : R2 := fun x y H Q => ∃ l k xs, x = .ref l ∧ y = .int k ∧ SqL K H l xs ∧ -(2 ^ 63) ≤ k ∧ k < 2 ^ 63 ∧ xs.length * k.toNat ≤ sizeLine ∧
  ∀ p, H p = none → Q (.ref p) (upd H p (.lst (List.replicate k.toNat xs).flatten))
theorem Vals.rep {xs : List V} {us : List Value} (r : Vals xs us) : ∀ n : Nat, Vals (List.replicate n xs).flatten (List.replicate n us).flatten
  | 0 => .nil
  | n + 1 => by
    rw [List.replicate_succ, List.replicate_succ, List.flatten_cons, List.flatten_cons]
    exact r.append (Vals.rep r n)
theorem op_repL : OpR X (binaryOp .Mult) (rRepL X.K) := by
  intro pins s σ H x y v u Q I rx ry h
  obtain ⟨l, k, xs, rfl, rfl, hH, h1, h2, hz, q⟩ := h
  cases rx
  obtain ⟨t, rfl⟩ := ry
  obtain ⟨its, r, p1, _⟩ := I.list hH
  obtain ⟨⟨cls, d, data, sl⟩, n, ho, hc, _, hd⟩ := p1
  simp only at hc hd
  subst hc hd
  have hl : xs.length = its.length := r.length
  have hsz' : its.toArray.size * k.toNat ≤ 2 ^ 24 := by
    rw [sizeLine_eq] at hz
    simpa [← hl] using hz
  refine wpAny_binaryOp_repeat_ref (T := "list") (U := "int") (by decide) ⟨_, ho, rfl⟩ (fun s' => typeIs_int s' k t) noFill_list_mul PySem.F.fills_int_mul PySem.F.slot_int_rmul repeat_list PySem.F.slot_int_index.lookup
    (call_meets PySem.F.slot_int_rmul (typeIs_int s k t) PySem.F.entry_int_rmul (PySem.F.args_int_rmul_2 _ _) (lm_int_rmul_list_any k t l its.toArray n d sl)
      ⟨ho, rfl, ⟨_, ho, rfl⟩, call_meets PySem.F.slot_list_mul ⟨_, ho, rfl⟩ PySem.F.entry_list_mul (PySem.F.args_list_mul_2 _ _)
        (lm_list_mul_any l its.toArray n d sl k t (by simp [Builtin.List.listFitsIndex]; omega) (by omega) (by simp [Builtin.List.listTooLong, sizeLine]; omega))
        ⟨ho, ?_⟩⟩)
  have e2 : List.foldl (fun x1 x2 => x1 ++ x2) #[] (List.replicate (if its.toArray.isEmpty = true then 0 else k.toNat) its.toArray) = (List.replicate k.toNat its).flatten.toArray := by
    simpa using listMul_foldl_if its.toArray k.toNat
  rw [e2]
  have hlen : (List.replicate k.toNat xs).flatten.length ≤ sizeLine := by
    rw [List.length_flatten, List.map_replicate, List.sum_replicate_nat, Nat.mul_comm]
    exact hz
  exact ⟨.ref _, _, I.lnew (t' := s.toks) (Vals.rep r _) hlen, rfl, q _ I.fresh⟩
def rInT (K : PySem.W.Frag) : R2 := fun x y H Q => ∃ d ds, Dp K H x d ∧ Dp K H y (.tuple ds) ∧ SeqAt.shaped d = true ∧ SeqAt.shaped (.tuple ds) = true ∧ Q (.bl (ds.any fun z => PyData.eqv z d)) H
def rNotInT (K : PySem.W.Frag) : R2 := fun x y H Q => ∃ d ds, Dp K H x d ∧ Dp K H y (.tuple ds) ∧ SeqAt.shaped d = true ∧ SeqAt.shaped (.tuple ds) = true ∧ Q (.bl (!ds.any fun z => PyData.eqv z d)) H
theorem op_inT (hu : X.A.units + 65 < cLine) : OpR X (compareOp .In) (rInT X.K) := by
  intro pins s σ H x y v u Q I rx ry h
  obtain ⟨d, ds, hd, he, sd, se, q⟩ := h
  obtain ⟨as, r1⟩ := Dp.reads I d x v hd rx
  obtain ⟨bs, r2⟩ := Dp.reads I (.tuple ds) y u he ry
  exact SeqAt.in_tuple_reads r2 r1 (SeqAt.canLay_of_shaped se) (SeqAt.canLay_of_shaped sd) (room_in_shaped sd hu) ⟨.bl _, H, I, rfl, q⟩
theorem op_notInT (hu : X.A.units + 65 < cLine) : OpR X (compareOp .NotIn) (rNotInT X.K) := by
  intro pins s σ H x y v u Q I rx ry h
  obtain ⟨d, ds, hd, he, sd, se, q⟩ := h
  obtain ⟨as, r1⟩ := Dp.reads I d x v hd rx
  obtain ⟨bs, r2⟩ := Dp.reads I (.tuple ds) y u he ry
  exact SeqAt.notIn_tuple_reads r2 r1 (SeqAt.canLay_of_shaped se) (SeqAt.canLay_of_shaped sd) (room_in_shaped sd hu) ⟨.bl _, H, I, rfl, q⟩
end

/-! ### data -/
section
variable {B : Base} {ω : Wd} {H : Hp}
mutual
theorem dp_of {d : D} {v : V} {x : PyData} (r : RelD B ω H d v) (h : D.p d = some x) : Dp B.K H v x := by
  cases r with
  | non => simp only [D.p, Option.some.injEq] at h; subst h; exact .non
  | bl b => simp only [D.p, Option.some.injEq] at h; subst h; exact .bl b
  | int i => simp only [D.p, Option.some.injEq] at h; subst h; exact .int i
  | str i => simp only [D.p, Option.some.injEq] at h; subst h; exact .str i
  | tup h1 h2 =>
    rename_i xs a vs
    simp only [D.p] at h
    cases e : D.ps xs with
    | none => rw [e] at h; cases h
    | some ys =>
      rw [e] at h
      simp only [Option.map_some, Option.some.injEq] at h; subst h
      exact .tup h1.sq (dps_of h2 e)
  | lst h1 h2 =>
    rename_i xs a vs
    simp only [D.p] at h
    cases e : D.ps xs with
    | none => rw [e] at h; cases h
    | some ys =>
      rw [e] at h
      simp only [Option.map_some, Option.some.injEq] at h; subst h
      exact .lst h1.sq (dps_of h2 e)
  | obj => simp only [D.p] at h; cases h
  | fn => simp only [D.p] at h; cases h
  | loc => simp only [D.p] at h; cases h
theorem dps_of {d : List D} {v : List V} {x : List PyData} (r : RelDs B ω H d v) (h : D.ps d = some x) : DpAll B.K H v x := by
  cases r with
  | nil => simp only [D.ps, Option.some.injEq] at h; subst h; exact .nil
  | cons r1 r2 =>
    rename_i d ds v vs
    simp only [D.ps] at h
    cases e1 : D.p d with
    | none => rw [e1] at h; cases h
    | some y =>
      cases e2 : D.ps ds with
      | none => rw [e1, e2] at h; cases h
      | some ys =>
        rw [e1, e2] at h
        simp only [Option.some.injEq] at h; subst h
        exact .cons (dp_of r1 e1) (dps_of r2 e2)
end
theorem dpv_of {d : D} {v : V} {x : PyData} (r : Vw B ω H d v) (h : D.p d = some x) : Dp B.K H v x := by
  rcases r with r | ⟨c, a, h1, h2, h3⟩
  · exact dp_of r h
  · subst h1 h2
    cases c with
    | ins c fs => simp only [Cell.toD, D.p] at h; cases h
    | lst xs =>
      obtain ⟨vs, q1, q2⟩ := h3
      simp only [Cell.toD, D.p] at h
      cases e : D.ps xs with
      | none => rw [e] at h; cases h
      | some ys =>
        rw [e] at h
        simp only [Option.map_some, Option.some.injEq] at h; subst h
        exact .lst (.of q1) (dps_of q2 e)
end

/-! ### binary operators -/
def aOp : Op → Operator
  | .add => .Add | .sub => .Sub | .mul => .Mult | .fdv => .FloorDiv | .mod => .Mod | .pow => .Pow
section
variable {X : Cx} {C : Cf}
/-- what an operator's rule must give -/
abbrev OpOk (X : Cx) (C : Cf) (f : Value → Value → Sem Value) (g : D → D → Option D) : Prop := ∃ r : R2, OpR X f r ∧
  ∀ ω st σ H x y vx vy Q, SimSt (bs X C) ω st H → Vw (bs X C) ω H x vx → Vw (bs X C) ω H y vy → Post (bs X C) C.W ω H σ (lift (g x y) st) (fun d _ ω' H' => ∀ v, RelD (bs X C) ω' H' d v → Q v H') → r vx vy H Q
theorem opB_ok (o : Op) : OpOk X C (binaryOp (aOp o)) (opB o) := by
  cases o with
  | add =>
    refine ⟨_, op_add.or (op_add_str.or (op_catA.or op_catL)), fun ω st σ H x y vx vy Q z r1 r2 q => ?_⟩
    obtain ⟨d, e, p⟩ := q.lift
    clear q
    replace e : addD x y = some d := e
    unfold addD at e
    split at e
    · simp only [Option.some.injEq] at e; subst e
      exact .inl ⟨_, _, r1.int, r2.int, p.here z _ (.int _)⟩
    · split at e <;> try (cases e; done)
      rename_i hf
      simp only [Option.some.injEq] at e; subst e
      exact .inr (.inl ⟨_, _, r1.str, r2.str, fits_le hf, p.here z _ (.str _)⟩)
    · split at e <;> try (cases e; done)
      rename_i hf
      simp only [Option.some.injEq] at e; subst e
      obtain ⟨a, vs, rfl, h1, h2⟩ := r1.tup
      obtain ⟨b, us, rfl, h3, h4⟩ := r2.tup
      refine .inr (.inr (.inl ⟨a, b, vs, us, rfl, rfl, h1.sq, h3.sq, ?_, fun e => ?_, fun _ e => ?_, fun _ _ q hq => ?_⟩))
      · rw [← h2.length, ← h4.length]; exact fits_le hf
      · have e' := h2.nil_iff.mpr e
        subst e'
        exact p.here z _ (.tup h3 h4)
      · have e' := h4.nil_iff.mpr e
        subst e'
        exact p.here z _ (by rw [List.append_nil]; exact .tup h1 h2)
      · exact p.new z hq _ (rel_newT z hq (h2.append h4))
    · split at e <;> try (cases e; done)
      rename_i hf
      simp only [Option.some.injEq] at e; subst e
      obtain ⟨a, vs, rfl, h1, h2⟩ := r1.lst
      obtain ⟨b, us, rfl, h3, h4⟩ := r2.lst
      refine .inr (.inr (.inr ⟨a, b, vs, us, rfl, rfl, h1, h3, ?_, fun q hq => ?_⟩))
      · rw [← h2.length, ← h4.length]; exact fits_le hf
      · exact p.new z hq _ (rel_newL z hq (h2.append h4))
    · cases e
  | sub =>
    refine ⟨_, op_sub, fun ω st σ H x y vx vy Q z r1 r2 q => ?_⟩
    obtain ⟨d, e, p⟩ := q.lift
    clear q
    replace e : subD x y = some d := e
    unfold subD at e
    split at e
    · simp only [Option.some.injEq] at e; subst e
      exact ⟨_, _, r1.int, r2.int, p.here z _ (.int _)⟩
    · cases e
  | mul =>
    refine ⟨_, op_mul.or (op_repL.or op_repT), fun ω st σ H x y vx vy Q z r1 r2 q => ?_⟩
    obtain ⟨d, e, p⟩ := q.lift
    clear q
    replace e : mulD x y = some d := e
    unfold mulD at e
    split at e
    · split at e <;> try (cases e; done)
      rename_i hs
      simp only [Option.some.injEq] at e; subst e
      refine .inl ⟨_, _, r1.int, r2.int, ?_, p.here z _ (.int _)⟩
      unfold smallI at hs
      simp only [Bool.or_eq_true, Bool.and_eq_true, decide_eq_true_eq] at hs
      exact hs
    · split at e <;> try (cases e; done)
      rename_i xs j hs
      simp only [Option.some.injEq] at e; subst e
      simp only [Bool.and_eq_true, decide_eq_true_eq] at hs
      obtain ⟨a, vs, rfl, h1, h2⟩ := r1.lst
      refine .inr (.inl ⟨a, _, vs, rfl, r2.int, h1, hs.1.1, hs.1.2, ?_, fun q hq => ?_⟩)
      · rw [← h2.length]; exact fits_le hs.2
      · exact p.new z hq _ (rel_newL z hq (rel_rep h2 _))
    · split at e <;> try (cases e; done)
      rename_i xs j hs
      simp only [Option.some.injEq] at e; subst e
      simp only [Bool.and_eq_true, decide_eq_true_eq, Bool.not_eq_true'] at hs
      obtain ⟨a, vs, rfl, h1, h2⟩ := r1.tup
      refine .inr (.inr ⟨a, _, vs, rfl, r2.int, h1.sq, fun e => ?_, hs.1.1.1, hs.1.1.2, by rw [← h2.length]; exact hs.1.2, fun q hq => ?_⟩)
      · have := h2.nil_iff.mpr e
        subst this
        cases hs.2
      · exact p.new z hq _ (rel_newT z hq (rel_rep h2 _))
    · cases e
  | fdv =>
    refine ⟨_, op_fdiv, fun ω st σ H x y vx vy Q z r1 r2 q => ?_⟩
    obtain ⟨d, e, p⟩ := q.lift
    clear q
    replace e : fdvD x y = some d := e
    unfold fdvD at e
    split at e
    · split at e <;> try (cases e; done)
      rename_i hs
      simp only [Option.some.injEq] at e; subst e
      simp only [Bool.and_eq_true, decide_eq_true_eq] at hs
      exact ⟨_, _, r1.int, r2.int, hs, p.here z _ (.int _)⟩
    · cases e
  | mod =>
    refine ⟨_, op_mod, fun ω st σ H x y vx vy Q z r1 r2 q => ?_⟩
    obtain ⟨d, e, p⟩ := q.lift
    clear q
    replace e : modD x y = some d := e
    unfold modD at e
    split at e
    · split at e <;> try (cases e; done)
      rename_i hs
      simp only [Option.some.injEq] at e; subst e
      simp only [decide_eq_true_eq] at hs
      exact ⟨_, _, r1.int, r2.int, hs, p.here z _ (.int _)⟩
    · cases e
  | pow =>
    refine ⟨_, op_pow, fun ω st σ H x y vx vy Q z r1 r2 q => ?_⟩
    obtain ⟨d, e, p⟩ := q.lift
    clear q
    replace e : powD x y = some d := e
    unfold powD at e
    split at e
    · split at e <;> try (cases e; done)
      rename_i hs
      simp only [Option.some.injEq] at e; subst e
      simp only [Bool.and_eq_true, decide_eq_true_eq] at hs
      exact ⟨_, _, r1.int, r2.int, ⟨hs.1.1, hs.1.2, hs.2⟩, p.here z _ (.int _)⟩
    · cases e
end
end Iv

set_option Elab.async false
set_option linter.all false
set_option maxRecDepth 100000
set_option maxHeartbeats 4000000
/-! IvE: rules for expressions without calls. -/
namespace Iv
open PySem PySem.Spec L2
open PyProof.Rows hiding St

def aCm : Cm → CmpOp
  | .eq => .Eq | .ne => .NotEq | .lt => .Lt | .le => .LtE | .gt => .Gt | .ge => .GtE | .is_ => .Is | .isn => .IsNot | .in_ => .In | .nin => .NotIn
section
variable {X : Cx} {C : Cf}
abbrev CmOk (X : Cx) (C : Cf) (f : Value → Value → Sem Value) (g : D → D → Option Bool) : Prop := ∃ r : R2, OpR X f r ∧
  ∀ ω H x y vx vy b Q, Vw (bs X C) ω H x vx → Vw (bs X C) ω H y vy → g x y = some b → Q (.bl b) H → r vx vy H Q
theorem intC_ok {f : Int → Int → Bool} {x y : D} {b : Bool} (h : intC f x y = some b) : ∃ i j, x = .int i ∧ y = .int j ∧ b = f i j := by
  unfold intC at h
  split at h
  · exact ⟨_, _, rfl, rfl, (Option.some.inj h).symm⟩
  · cases h
theorem eqD_ok {x y : D} {b : Bool} (h : eqD x y = some b) : ∃ p q, D.p x = some p ∧ D.p y = some q ∧ SeqAt.shaped p = true ∧ SeqAt.shaped q = true ∧ b = PyData.eqv p q := by
  unfold eqD at h
  split at h
  · rename_i p q e1 e2
    split at h
    · rename_i hs
      rw [Bool.and_eq_true] at hs
      exact ⟨p, q, e1, e2, hs.1, hs.2, (Option.some.inj h).symm⟩
    · cases h
  · cases h
theorem isND_ok {x y : D} {b : Bool} (h : isND x y = some b) : y = .non ∧ ((x = .non ∧ b = true) ∨ (b = false ∧ ∀ (ω : Wd) (H : Hp) v, Vw (bs X C) ω H x v → v ≠ .non)) := by
  cases y with
  | non =>
    refine ⟨rfl, ?_⟩
    cases x with
    | non => exact .inl ⟨rfl, (Option.some.inj h).symm⟩
    | int _ => exact .inr ⟨(Option.some.inj h).symm, fun ω H v r => by rw [r.int]; intro z; cases z⟩
    | str _ => exact .inr ⟨(Option.some.inj h).symm, fun ω H v r => by rw [r.str]; intro z; cases z⟩
    | tup _ => exact .inr ⟨(Option.some.inj h).symm, fun ω H v r => by obtain ⟨_, _, e, _⟩ := r.tup; rw [e]; intro z; cases z⟩
    | lst _ => exact .inr ⟨(Option.some.inj h).symm, fun ω H v r => by obtain ⟨_, _, e, _⟩ := r.lst; rw [e]; intro z; cases z⟩
    | bl _ => exact .inr ⟨(Option.some.inj h).symm, fun ω H v r => by rw [r.bl]; intro z; cases z⟩
    | obj _ _ => exact .inr ⟨(Option.some.inj h).symm, fun ω H v r => by obtain ⟨_, _, _, e, _⟩ := r.obj; rw [e]; intro z; cases z⟩
    | fn _ => exact nomatch h
    | loc _ => exact nomatch h
  | _ => exact nomatch h
theorem isND_dec {x y : D} {b : Bool} {ω : Wd} {H : Hp} {vx vy : V} (h : isND x y = some b) (r1 : Vw (bs X C) ω H x vx) (r2 : Vw (bs X C) ω H y vy) : vy = .non ∧ decide (vx = .non) = b := by
  obtain ⟨e, h0⟩ := isND_ok (X := X) (C := C) h
  clear h
  subst e
  refine ⟨r2.non, ?_⟩
  rcases h0 with ⟨e, rfl⟩ | ⟨rfl, h⟩
  · subst e; rw [r1.non]; rfl
  · exact decide_eq_false (h ω H vx r1)
theorem inD_rule {x y : D} {b : Bool} {ω : Wd} {H : Hp} {vx vy : V} (h : inD x y = some b) (r1 : Vw (bs X C) ω H x vx) (r2 : Vw (bs X C) ω H y vy) :
    (∃ d ds, Dp X.K H vx d ∧ Dp X.K H vy (.list ds) ∧ SeqAt.shaped d = true ∧ SeqAt.shaped (.list ds) = true ∧ b = ds.any fun z => PyData.eqv z d) ∨
    (∃ d ds, Dp X.K H vx d ∧ Dp X.K H vy (.tuple ds) ∧ SeqAt.shaped d = true ∧ SeqAt.shaped (.tuple ds) = true ∧ b = ds.any fun z => PyData.eqv z d) ∨
    (∃ i j, vx = .str i ∧ vy = .str j ∧ b = !(Builtin.Str.occurrences j i 0 j.length 1).isEmpty) := by
  unfold inD at h
  split at h
  · rename_i ys
    split at h
    · rename_i p zs e1 e2
      split at h
      · rename_i hs
        rw [Bool.and_eq_true] at hs
        refine .inl ⟨p, zs, dpv_of r1 e1, dpv_of r2 ?_, hs.1, hs.2, (Option.some.inj h).symm⟩
        simp only [D.p]; rw [e2]; rfl
      · cases h
    · cases h
  · rename_i ys
    split at h
    · rename_i p zs e1 e2
      split at h
      · rename_i hs
        rw [Bool.and_eq_true] at hs
        refine .inr (.inl ⟨p, zs, dpv_of r1 e1, dpv_of r2 ?_, hs.1, hs.2, (Option.some.inj h).symm⟩)
        simp only [D.p]; rw [e2]; rfl
      · cases h
    · cases h
  · split at h
    · exact .inr (.inr ⟨_, _, r1.str, r2.str, (Option.some.inj h).symm⟩)
    · cases h
  · cases h
theorem map_not {o : Option Bool} {b : Bool} (h : o.map (!·) = some b) : o = some (!b) := by
  cases o with
  | none => cases h
  | some c => simp only [Option.map_some, Option.some.injEq] at h; subst h; simp
theorem cmB_ok (hu : X.A.units + 200 < cLine) (o : Cm) : CmOk X C (compareOp (aCm o)) (cmB o) := by
  cases o with
  | eq =>
    refine ⟨_, op_eqD (by omega), fun ω H x y vx vy b Q r1 r2 h q => ?_⟩
    obtain ⟨p, p', e1, e2, s1, s2, rfl⟩ := eqD_ok h
    exact ⟨p, p', dpv_of r1 e1, dpv_of r2 e2, s1, s2, q⟩
  | ne =>
    refine ⟨_, op_neD (by omega), fun ω H x y vx vy b Q r1 r2 h q => ?_⟩
    obtain ⟨p, p', e1, e2, s1, s2, e⟩ := eqD_ok (map_not h)
    exact ⟨p, p', dpv_of r1 e1, dpv_of r2 e2, s1, s2, by rw [← e, Bool.not_not]; exact q⟩
  | lt =>
    refine ⟨_, op_lt, fun ω H x y vx vy b Q r1 r2 h q => ?_⟩
    obtain ⟨i, j, rfl, rfl, rfl⟩ := intC_ok h
    exact ⟨i, j, r1.int, r2.int, q⟩
  | le =>
    refine ⟨_, op_le, fun ω H x y vx vy b Q r1 r2 h q => ?_⟩
    obtain ⟨i, j, rfl, rfl, rfl⟩ := intC_ok h
    exact ⟨i, j, r1.int, r2.int, q⟩
  | gt =>
    refine ⟨_, op_gt, fun ω H x y vx vy b Q r1 r2 h q => ?_⟩
    obtain ⟨i, j, rfl, rfl, rfl⟩ := intC_ok h
    exact ⟨i, j, r1.int, r2.int, q⟩
  | ge =>
    refine ⟨_, op_ge, fun ω H x y vx vy b Q r1 r2 h q => ?_⟩
    obtain ⟨i, j, rfl, rfl, rfl⟩ := intC_ok h
    exact ⟨i, j, r1.int, r2.int, q⟩
  | is_ =>
    refine ⟨_, op_isN, fun ω H x y vx vy b Q r1 r2 h q => ?_⟩
    obtain ⟨e, e2⟩ := isND_dec h r1 r2
    exact ⟨e, by rw [e2]; exact q⟩
  | isn =>
    refine ⟨_, op_notN, fun ω H x y vx vy b Q r1 r2 h q => ?_⟩
    obtain ⟨e, e2⟩ := isND_dec (map_not h) r1 r2
    exact ⟨e, by rw [e2, Bool.not_not]; exact q⟩
  | in_ =>
    refine ⟨_, (op_inD (by omega)).or ((op_inT (by omega)).or op_in_str), fun ω H x y vx vy b Q r1 r2 h q => ?_⟩
    rcases inD_rule h r1 r2 with ⟨d, ds, h1, h2, h3, h4, rfl⟩ | ⟨d, ds, h1, h2, h3, h4, rfl⟩ | ⟨i, j, h1, h2, rfl⟩
    · exact .inl ⟨d, ds, h1, h2, h3, h4, q⟩
    · exact .inr (.inl ⟨d, ds, h1, h2, h3, h4, q⟩)
    · exact .inr (.inr ⟨i, j, h1, h2, q⟩)
  | nin =>
    refine ⟨_, (op_notInD (by omega)).or ((op_notInT (by omega)).or op_notin_str), fun ω H x y vx vy b Q r1 r2 h q => ?_⟩
    have hb : b = !(!b) := by simp
    rcases inD_rule (map_not h) r1 r2 with ⟨d, ds, h1, h2, h3, h4, e⟩ | ⟨d, ds, h1, h2, h3, h4, e⟩ | ⟨i, j, h1, h2, e⟩
    · exact .inl ⟨d, ds, h1, h2, h3, h4, by rw [← e, ← hb]; exact q⟩
    · exact .inr (.inl ⟨d, ds, h1, h2, h3, h4, by rw [← e, ← hb]; exact q⟩)
    · exact .inr (.inr ⟨i, j, h1, h2, by rw [← e, ← hb]; exact q⟩)
end

section
variable {X : Cx} {C : Cf} {P : Pt} {G : Fns} {a b c e : Expr} {ia ib ic : Ex} {pos : Pos}
theorem ok_bin {o : Op} (ha : OkW X C P G ia a) (hb : OkW X C P G ib b) : OkE X C P G (.bin o ia ib) (.BinOp a (aOp o) b pos) := by
  obtain ⟨r, hr, hk⟩ := opB_ok (X := X) (C := C) o
  refine pe_weak (pe_op hr ha hb) fun σ H Q ⟨ω, env, st, S, q⟩ => ?_
  unfold ev at q
  refine tW.step S q fun x s1 ω1 H1 vx e1 S1 r1 q1 => ?_
  refine tW.step S1 q1 fun y s2 ω2 H2 vy e2 S2 r2 q2 => ?_
  exact hk ω2 s2 σ H2 _ _ vx vy Q S2.st (der_vw (r1.ext S1.st e2) S2.st) (der_vw r2 S2.st) q2
theorem cmp_go {o : Cm} {r : R2} (hk : ∀ ω H x y vx vy b Q, Vw (bs X C) ω H x vx → Vw (bs X C) ω H y vy → cmB o x y = some b → Q (.bl b) H → r vx vy H Q) {g1 g2 : Ev D} {σ : St} {H : Hp} {Q : VK}
    (q : tI (bs X C) C (fun env st => (g1 env st).bind fun x s1 => (g2 env s1).bind fun y s2 => lift ((cmB o (der s2 x) (der s2 y)).map .bl) s2) σ H Q) : tOp r (tW (bs X C) C g1) (tW (bs X C) C g2) σ H Q := by
  obtain ⟨ω, env, st, S, q⟩ := q
  refine tW.step S q fun x s1 ω1 H1 vx e1 S1 r1 q1 => ?_
  refine tW.step S1 q1 fun y s2 ω2 H2 vy e2 S2 r2 q2 => ?_
  obtain ⟨d, e, p⟩ := q2.lift
  cases hb : cmB o (der s2 x) (der s2 y) with
  | none => rw [hb] at e; cases e
  | some b =>
    rw [hb] at e
    simp only [Option.map_some, Option.some.injEq] at e; subst e
    exact hk ω2 H2 _ _ vx vy b Q (der_vw (r1.ext S1.st e2) S2.st) (der_vw r2 S2.st) hb (p.here S2.st _ (.bl b))
theorem ok_cmp {o : Cm} (hu : X.A.units + 200 < cLine) (ha : OkW X C P G ia a) (hb : OkW X C P G ib b) (hm : behindInMarks (aCm o) b = false) : OkE X C P G (.cmp o ia ib) (.Compare a [aCm o] [b] pos) := by
  obtain ⟨r, hr, hk⟩ := cmB_ok (X := X) (C := C) hu o
  refine pe_weak (pe_cmpR hr ha hb hm) fun σ H Q ⟨ω, env, st, S, q⟩ => ?_
  unfold ev at q
  exact cmp_go hk ⟨ω, env, st, S, q⟩
/-- a test's reading from the reading of its value -/
theorem tst_val {g : Ev D} {B : Base} {σ : St} {H : Hp} {Q : Bool → Hp → Prop} (q : tT B C (fun env st => tst (g env st)) σ H Q) : tI B C g σ H fun x H' => ∃ k, x = .bl k ∧ Q k H' := by
  obtain ⟨ω, env, st, S, q⟩ := q
  refine tI.step S q fun x s1 ω1 H1 v e1 S1 r1 q1 => ?_
  cases x with
  | bl b => cases r1; exact ⟨b, rfl, q1.here S1.st⟩
  | _ => exact q1.elim
theorem okT_cmp {o : Cm} (hu : X.A.units + 200 < cLine) (ha : OkW X C P G ia a) (hb : OkW X C P G ib b) (hm : behindInMarks (aCm o) b = false) : OkT X C P G (.cmp o ia ib) (.Compare a [aCm o] [b] pos) := by
  obtain ⟨r, hr, hk⟩ := cmB_ok (X := X) (C := C) hu o
  refine pt_weak (pt_cmpR hr ha hb hm) fun σ H Q q => ?_
  obtain ⟨ω, env, st, S, q⟩ := tst_val q
  unfold ev at q
  exact cmp_go hk ⟨ω, env, st, S, q⟩
theorem chn_go {o p : Cm} {r r' : R2} (hk : ∀ ω H x y vx vy b Q, Vw (bs X C) ω H x vx → Vw (bs X C) ω H y vy → cmB o x y = some b → Q (.bl b) H → r vx vy H Q)
    (hk' : ∀ ω H x y vx vy b Q, Vw (bs X C) ω H x vx → Vw (bs X C) ω H y vy → cmB p x y = some b → Q (.bl b) H → r' vx vy H Q) {g1 g2 g3 : Ev D} {σ : St} {H : Hp} {Q : VK}
    (q : tI (bs X C) C (fun env st => (g1 env st).bind fun x s1 => (g2 env s1).bind fun y s2 => match cmB o x y with
    | some true => (g3 env s2).bind fun z s3 => lift ((cmB p y z).map .bl) s3
    | some false => .ok (.bl false) s2
    | none => .stuck) σ H Q) : tChain r r' (tI (bs X C) C g1) (tI (bs X C) C g2) (tI (bs X C) C g3) σ H Q := by
  obtain ⟨ω, env, st, S, q⟩ := q
  refine tI.step S q fun x s1 ω1 H1 vx e1 S1 r1 q1 => ?_
  refine tI.step S1 q1 fun y s2 ω2 H2 vy e2 S2 r2 q2 => ?_
  cases hb : cmB o x y with
  | none => rw [hb] at q2; exact q2.elim
  | some b =>
    rw [hb] at q2
    refine hk ω2 H2 x y vx vy b _ (.inl (r1.keep e2.keep)) (.inl r2) hb ⟨b, rfl, ?_⟩
    cases b with
    | false =>
      rw [if_neg Bool.false_ne_true]
      exact q2.here S2.st _ (.bl false)
    | true =>
      rw [if_pos rfl]
      refine tI.step S2 q2 fun z s3 ω3 H3 vz e3 S3 r3 q3 => ?_
      obtain ⟨d, e, pp⟩ := q3.lift
      cases hc : cmB p y z with
      | none => rw [hc] at e; cases e
      | some b' =>
        rw [hc] at e
        simp only [Option.map_some, Option.some.injEq] at e; subst e
        exact hk' ω3 H3 y z vy vz b' Q (.inl (r2.keep e3.keep)) (.inl r3) hc (pp.here S3.st _ (.bl b'))
theorem ok_chn {o p : Cm} (hu : X.A.units + 200 < cLine) (ha : OkE X C P G ia a) (hb : OkE X C P G ib b) (hc : OkE X C P G ic c) (hm : lastMarks [aCm o, aCm p] [b, c] = false) :
    OkE X C P G (.chn o p ia ib ic) (.Compare a [aCm o, aCm p] [b, c] pos) := by
  obtain ⟨r, hr, hk⟩ := cmB_ok (X := X) (C := C) hu o
  obtain ⟨r', hr', hk'⟩ := cmB_ok (X := X) (C := C) hu p
  refine pe_weak (pe_chain hr hr' ha hb hc hm) fun σ H Q ⟨ω, env, st, S, q⟩ => ?_
  unfold ev at q
  exact chn_go hk hk' ⟨ω, env, st, S, q⟩
theorem okT_chn {o p : Cm} (hu : X.A.units + 200 < cLine) (ha : OkE X C P G ia a) (hb : OkE X C P G ib b) (hc : OkE X C P G ic c) (hm : lastMarks [aCm o, aCm p] [b, c] = false) :
    OkT X C P G (.chn o p ia ib ic) (.Compare a [aCm o, aCm p] [b, c] pos) := by
  obtain ⟨r, hr, hk⟩ := cmB_ok (X := X) (C := C) hu o
  obtain ⟨r', hr', hk'⟩ := cmB_ok (X := X) (C := C) hu p
  refine pt_weak (pt_chain hr hr' ha hb hc hm) fun σ H Q q => ?_
  obtain ⟨ω, env, st, S, q⟩ := tst_val q
  unfold ev at q
  exact chn_go hk hk' ⟨ω, env, st, S, q⟩
theorem ok_neg (ha : OkE X C P G ia a) : OkE X C P G (.neg ia) (.UnaryOp .USub a pos) := by
  refine pe_weak (pe_un un_neg ha) fun σ H Q ⟨ω, env, st, S, q⟩ => ?_
  unfold ev at q
  refine tI.step S q fun x s1 ω1 H1 vx e1 S1 r1 q1 => ?_
  cases x with
  | int i => cases r1; exact ⟨i, rfl, q1.here S1.st _ (.int _)⟩
  | _ => exact q1.elim

/-! ### truth -/
theorem ok_not (ha : OkE X C P G ia a) : OkE X C P G (.not ia) (.UnaryOp .Not a pos) := by
  refine pe_weak (pe_not ha) fun σ H Q ⟨ω, env, st, S, q⟩ => ?_
  unfold ev at q
  refine tI.step S q fun x s1 ω1 H1 vx e1 S1 r1 q1 => ?_
  cases x with
  | bl i => cases r1; exact ⟨i, rfl, q1.here S1.st _ (.bl _)⟩
  | _ => exact q1.elim
theorem ok_one {op : BoolOp} (ha : OkE X C P G ia a) : OkE X C P G (.one ia) (.BoolOp op [a] pos) := by
  refine pe_weak (pe_one ha) fun σ H Q ⟨ω, env, st, S, q⟩ => ?_
  unfold ev at q
  exact ⟨ω, env, st, S, q⟩
theorem ok_and {rest : List Expr} (ha : OkE X C P G ia a) (hb : OkE X C P G ib (.BoolOp .And (b :: rest) pos)) : OkE X C P G (.and ia ib) (.BoolOp .And (a :: b :: rest) pos) := by
  refine pe_weak (pe_and ha hb) fun σ H Q ⟨ω, env, st, S, q⟩ => ?_
  unfold ev at q
  refine tI.step S q fun x s1 ω1 H1 vx e1 S1 r1 q1 => ?_
  cases x with
  | bl i =>
    cases r1
    refine ⟨i, rfl, ?_⟩
    cases i with
    | true => rw [if_pos rfl]; exact ⟨ω1, env, s1, S1, q1⟩
    | false => rw [if_neg Bool.false_ne_true]; exact q1.here S1.st _ (.bl _)
  | _ => exact q1.elim
theorem ok_or {rest : List Expr} (ha : OkE X C P G ia a) (hb : OkE X C P G ib (.BoolOp .Or (b :: rest) pos)) : OkE X C P G (.or ia ib) (.BoolOp .Or (a :: b :: rest) pos) := by
  refine pe_weak (pe_or ha hb) fun σ H Q ⟨ω, env, st, S, q⟩ => ?_
  unfold ev at q
  refine tI.step S q fun x s1 ω1 H1 vx e1 S1 r1 q1 => ?_
  cases x with
  | bl i =>
    cases r1
    refine ⟨i, rfl, ?_⟩
    cases i with
    | true => rw [if_pos rfl]; exact q1.here S1.st _ (.bl _)
    | false => rw [if_neg Bool.false_ne_true]; exact ⟨ω1, env, s1, S1, q1⟩
  | _ => exact q1.elim
theorem okT_not (ha : OkT X C P G ia a) : OkT X C P G (.not ia) (.UnaryOp .Not a pos) := by
  refine pt_weak (pt_not ha) fun σ H Q ⟨ω, env, st, S, q⟩ => ?_
  have e : (fun env st => tst (ev P G C.xh (.not ia) env st)) = fun env st => (tst (ev P G C.xh ia env st)).bind fun b s => .ok (!b) s := by
    funext env st
    conv => lhs; unfold ev
    cases ev P G C.xh ia env st with
    | ok x s => cases x <;> rfl
    | _ => rfl
  have q' : Post (bs X C) C.W ω H σ ((fun env st => tst (ev P G C.xh (.not ia) env st)) env st) fun b _ ω' H' => Q b H' := q
  rw [e] at q'
  exact tT.step S q' fun b s1 ω1 H1 e1 S1 q1 => q1.here S1.st
theorem tst_one {e : Ex} {env : List Sl} {st : Store} {x : Xh} : ev P G x (.one e) env st = ev P G x e env st := by conv => lhs; unfold ev
theorem okT_oneA (ha : OkT X C P G ia a) : PW X (.BoolOp .And [a] pos) (tT (bs X C) C fun env st => tst (ev P G C.xh (.one ia) env st)) := by
  refine pw_weak (pw_and1 ha) fun σ H Q ⟨ω, env, st, S, q⟩ => ?_
  dsimp only at q
  rw [tst_one] at q
  exact ⟨ω, env, st, S, q⟩
theorem okT_oneO (ha : OkT X C P G ia a) : PW X (.BoolOp .Or [a] pos) (tT (bs X C) C fun env st => tst (ev P G C.xh (.one ia) env st)) := by
  refine pw_weak (pw_or1 ha) fun σ H Q ⟨ω, env, st, S, q⟩ => ?_
  dsimp only at q
  rw [tst_one] at q
  exact ⟨ω, env, st, S, q⟩
theorem tst_and {x : Xh} : (fun env st => tst (ev P G x (.and ia ib) env st)) = fun env st => (tst (ev P G x ia env st)).bind fun b s => if b then tst (ev P G x ib env s) else .ok false s := by
  funext env st
  conv => lhs; unfold ev
  cases ev P G x ia env st with
  | ok x s => cases x with
    | bl b => cases b <;> rfl
    | _ => rfl
  | _ => rfl
theorem tst_or {x : Xh} : (fun env st => tst (ev P G x (.or ia ib) env st)) = fun env st => (tst (ev P G x ia env st)).bind fun b s => if b then .ok true s else tst (ev P G x ib env s) := by
  funext env st
  conv => lhs; unfold ev
  cases ev P G x ia env st with
  | ok x s => cases x with
    | bl b => cases b <;> rfl
    | _ => rfl
  | _ => rfl
theorem okT_and {rest : List Expr} (ha : OkT X C P G ia a) (hb : PW X (.BoolOp .And (b :: rest) pos) (tT (bs X C) C fun env st => tst (ev P G C.xh ib env st))) :
    PW X (.BoolOp .And (a :: b :: rest) pos) (tT (bs X C) C fun env st => tst (ev P G C.xh (.and ia ib) env st)) := by
  refine pw_weak (pw_and ha hb) fun σ H Q ⟨ω, env, st, S, q⟩ => ?_
  have q' : Post (bs X C) C.W ω H σ ((fun env st => tst (ev P G C.xh (.and ia ib) env st)) env st) fun b _ ω' H' => Q b H' := q
  rw [tst_and] at q'
  refine tT.step S q' fun b s1 ω1 H1 e1 S1 q1 => ?_
  cases b with
  | true => rw [if_pos rfl]; exact ⟨ω1, env, s1, S1, q1⟩
  | false => rw [if_neg Bool.false_ne_true]; exact q1.here S1.st
theorem okT_or {rest : List Expr} (ha : OkT X C P G ia a) (hb : PW X (.BoolOp .Or (b :: rest) pos) (tT (bs X C) C fun env st => tst (ev P G C.xh ib env st))) :
    PW X (.BoolOp .Or (a :: b :: rest) pos) (tT (bs X C) C fun env st => tst (ev P G C.xh (.or ia ib) env st)) := by
  refine pw_weak (pw_or ha hb) fun σ H Q ⟨ω, env, st, S, q⟩ => ?_
  have q' : Post (bs X C) C.W ω H σ ((fun env st => tst (ev P G C.xh (.or ia ib) env st)) env st) fun b _ ω' H' => Q b H' := q
  rw [tst_or] at q'
  refine tT.step S q' fun b s1 ω1 H1 e1 S1 q1 => ?_
  cases b with
  | true => rw [if_pos rfl]; exact q1.here S1.st
  | false => rw [if_neg Bool.false_ne_true]; exact ⟨ω1, env, s1, S1, q1⟩
/-- any other test -/
theorem okT_val (ha : OkE X C P G ia a) (he : ∀ whole, isTrue a X.env whole = (do let v ← whole; standAt a.pos; holding [v] (truthy v))) : OkT X C P G ia a :=
  pt_weak (pt_val ha he) fun σ H Q q => tst_val q
theorem ok_ite (hc : OkT X C P G ic c) (ha : OkE X C P G ia a) (hb : OkE X C P G ib b) : OkE X C P G (.ite ic ia ib) (.IfExp c a b pos) := by
  refine pe_weak (pe_ifExp hc ha hb) fun σ H Q ⟨ω, env, st, S, q⟩ => ?_
  have e : ev P G C.xh (.ite ic ia ib) env st = (tst (ev P G C.xh ic env st)).bind fun b s => if b then ev P G C.xh ia env s else ev P G C.xh ib env s := by
    conv => lhs; unfold ev
    cases ev P G C.xh ic env st with
    | ok x s => cases x with
      | bl b => cases b <;> rfl
      | _ => rfl
    | _ => rfl
  rw [e] at q
  refine tT.step (g := fun env st => tst (ev P G C.xh ic env st)) S q fun b s1 ω1 H1 e1 S1 q1 => ?_
  cases b with
  | true => rw [if_pos rfl]; exact ⟨ω1, env, s1, S1, q1⟩
  | false => rw [if_neg Bool.false_ne_true]; exact ⟨ω1, env, s1, S1, q1⟩

/-! ### argument lists, displays -/
abbrev OkA (X : Cx) (C : Cf) (P : Pt) (G : Fns) (is : List Ex) (es : List Expr) : Prop := PA X es (tA (bs X C) C (evs P G C.xh is))
abbrev OkB (X : Cx) (C : Cf) (P : Pt) (G : Fns) (is : List Ex) (es : List Expr) : Prop := PA X es (tAw (bs X C) C (evb P G C.xh is))
variable {es : List Expr} {is : List Ex}
theorem oka_nil : OkA X C P G [] [] := pa_weak pa_nil fun σ H Q ⟨ω, env, st, S, q⟩ => by unfold evs at q; exact q.here S.st _ .nil
theorem okb_nil : OkB X C P G [] [] := pa_weak pa_nil fun σ H Q ⟨ω, env, st, S, q⟩ => by unfold evb at q; exact q.here S.st _ .nil
theorem oka_cons (ha : OkE X C P G ia a) (hs : OkA X C P G is es) (hst : starEach (a :: es) X.env = (false, eval a X.env) :: starEach es X.env) : OkA X C P G (ia :: is) (a :: es) := by
  refine pa_weak (pa_cons ha hs hst) fun σ H Q ⟨ω, env, st, S, q⟩ => ?_
  unfold evs at q
  refine tI.step S q fun x s1 ω1 H1 vx e1 S1 r1 q1 => ?_
  refine tA.step S1 q1 fun y s2 ω2 H2 vy e2 S2 r2 q2 => ?_
  exact q2.here S2.st _ (.cons (r1.keep e2.keep) r2)
theorem okb_cons (ha : OkW X C P G ia a) (hs : OkB X C P G is es) (hst : starEach (a :: es) X.env = (false, eval a X.env) :: starEach es X.env) : OkB X C P G (ia :: is) (a :: es) := by
  refine pa_weak (pa_cons ha hs hst) fun σ H Q ⟨ω, env, st, S, q⟩ => ?_
  unfold evb at q
  refine tW.step S q fun x s1 ω1 H1 vx e1 S1 r1 q1 => ?_
  refine tAw.step S1 q1 fun y s2 ω2 H2 vy e2 S2 r2 q2 => ?_
  exact q2.here S2.st _ (.cons (r1.ext S1.st e2) r2)
theorem ok_tup {k : Nat} (h : OkA X C P G is es) : OkE X C P G (.tup is) (.Tuple es k pos) := by
  refine pe_weak (pe_tup h) fun σ H Q ⟨ω, env, st, S, q⟩ => ?_
  unfold ev at q
  refine tA.step S q fun xs s1 ω1 H1 vs e1 S1 r1 q1 => ?_
  split at q1
  · rename_i hf
    exact ⟨by rw [← r1.length]; exact fits_le hf, fun p hp => q1.new S1.st hp _ (rel_newT S1.st hp r1)⟩
  · exact q1.elim
theorem ok_lst (h : OkA X C P G is es) : OkE X C P G (.lst is) (.List es pos) := by
  refine pe_weak (pe_lst h) fun σ H Q ⟨ω, env, st, S, q⟩ => ?_
  unfold ev at q
  refine tA.step S q fun xs s1 ω1 H1 vs e1 S1 r1 q1 => ?_
  split at q1
  · rename_i hf
    exact ⟨by rw [← r1.length]; exact fits_le hf, fun p hp => q1.new S1.st hp _ (rel_newL S1.st hp r1)⟩
  · exact q1.elim

/-! ### items, slices -/
theorem str_cps (s : Str) : s.cps.toList.length = s.length := by simp [Str.length]
theorem ok_idx (ha : OkW X C P G ia a) (hb : OkE X C P G ib b) (hs : PlainIx b) : OkE X C P G (.idx ia ib) (.Subscript a b pos) := by
  refine pe_weak (pe_ix ix_seq ha hb hs) fun σ H Q ⟨ω, env, st, S, q⟩ => ?_
  unfold ev at q
  refine tW.step S q fun x s1 ω1 H1 vx e1 S1 r1 q1 => ?_
  refine tI.step S1 q1 fun y s2 ω2 H2 vy e2 S2 r2 q2 => ?_
  obtain ⟨d, e, p⟩ := q2.lift
  have r1' := der_vw (r1.ext S1.st e2) S2.st
  unfold idxD at e
  split at e
  · rename_i xs i hx
    rw [hx] at r1'
    obtain ⟨a, vs, rfl, h1, h2⟩ := r1'.lst
    cases r2
    obtain ⟨v, h3, h4⟩ := atI_rel h2 e
    exact .inl ⟨a, vs, i, v, rfl, rfl, h1, h3, p.here S2.st _ h4⟩
  · rename_i xs i hx
    rw [hx] at r1'
    obtain ⟨a, vs, rfl, h1, h2⟩ := r1'.tup
    cases r2
    obtain ⟨v, h3, h4⟩ := atI_rel h2 e
    exact .inr (.inl ⟨a, vs, i, v, rfl, rfl, h1.sq, h3, p.here S2.st _ h4⟩)
  · rename_i s i hx
    rw [hx] at r1'
    rw [r1'.str]
    cases r2
    split at e
    · rename_i hf
      cases hc : atI s.cps.toList i with
      | none => rw [hc] at e; cases e
      | some c =>
        rw [hc] at e
        simp only [Option.map_some, Option.some.injEq] at e; subst e
        exact .inr (.inr ⟨s, i, c, rfl, rfl, fits_le hf, hc, p.here S2.st _ (.str _)⟩)
    · cases e
  · cases e
/-- a part of a slice -/
abbrev OkP (X : Cx) (C : Cf) (P : Pt) (G : Fns) (i : Ex) (o : Option Expr) : Prop :=
  PO X o (fun σ H Q => ∃ ω env st, Sim (bs X C) C ω env st σ H ∧ Post (bs X C) C.W ω H σ (evo i st (ev P G C.xh i env st)) fun o _ ω' H' => Q o H')
theorem okp_none : OkP X C P G .nil none := ⟨fun pins s σ H Q I ⟨ω, env, st, S, q⟩ => po_none.run pins s σ H Q I (q.here S.st)⟩
theorem okp_some (ha : OkE X C P G ia a) (hn : ia ≠ .nil) : OkP X C P G ia (some a) := by
  refine ⟨fun pins s σ H Q I ⟨ω, env, st, S, q⟩ => (po_some ha).run pins s σ H Q I ?_⟩
  have e : evo ia st (ev P G C.xh ia env st) = (ev P G C.xh ia env st).bind fun x s1 => match x with
    | .int i => .ok (some i) s1
    | _ => .stuck := by
    unfold evo
    split
    · exact absurd rfl hn
    · rfl
  rw [e] at q
  refine tI.step S q fun x s1 ω1 H1 v e1 S1 r1 q1 => ?_
  cases x with
  | int i => cases r1; exact ⟨i, rfl, q1.here S1.st⟩
  | _ => exact q1.elim
theorem cutL_rel {B : Base} {ω : Wd} {H : Hp} {xs : List D} {vs : List V} (r : RelDs B ω H xs vs) (lo hi : Option Int) : RelDs B ω H (cutL xs lo hi) (cutV vs lo hi) := by
  unfold cutL cutV
  rw [← r.length]
  exact (r.drop _).take _
theorem ok_slc {lo hi : Option Expr} {il ih : Ex} {p2 : Pos} (ha : OkW X C P G ia a) (hl : OkP X C P G il lo) (hh : OkP X C P G ih hi) : OkE X C P G (.slc ia il ih) (.Subscript a (.Slice lo hi none p2) pos) := by
  refine pe_weak (pe_slice (sl_list.or (sl_tupA.or sl_str)) ha hl hh) fun σ H Q ⟨ω, env, st, S, q⟩ => ?_
  unfold ev at q
  refine tW.step S q fun x s1 ω1 H1 vx e1 S1 r1 q1 => ?_
  refine ⟨ω1, env, s1, S1, ?_⟩
  cases hlo : evo il s1 (ev P G C.xh il env s1) with
  | stuck => rw [hlo] at q1; exact q1
  | exc c fs s => rw [hlo] at q1; exact q1
  | ok l s2 =>
    rw [hlo] at q1
    intro ω2 H2 e2 z2
    have S2 := S1.ext e2 z2
    have q2 := Post.mono q1 e2
    refine ⟨ω2, env, s2, S2, ?_⟩
    replace q2 : Post (bs X C) C.W ω2 H2 σ ((evo ih s2 (ev P G C.xh ih env s2)).bind fun h s3 => lift (slcD (der s3 x) l h) s3) _ := q2
    cases hhi : evo ih s2 (ev P G C.xh ih env s2) with
    | stuck => rw [hhi] at q2; exact q2
    | exc c fs s => rw [hhi] at q2; exact q2
    | ok h s3 =>
      rw [hhi] at q2
      intro ω3 H3 e3 z3
      have S3 := S2.ext e3 z3
      have q3 := Post.mono q2 e3
      obtain ⟨d, e, p⟩ := Post.lift (o := slcD (der s3 x) l h) q3
      have r1' := der_vw ((r1.ext S1.st e2).ext S2.st e3) S3.st
      unfold slcD at e
      split at e
      · rename_i xs hx
        simp only [Option.some.injEq] at e; subst e
        rw [hx] at r1'
        obtain ⟨a, vs, rfl, h1, h2⟩ := r1'.lst
        exact .inl ⟨a, vs, rfl, h1, fun q hq => p.new S3.st hq _ (rel_newL S3.st hq (cutL_rel h2 l h))⟩
      · rename_i xs hx
        simp only [Option.some.injEq] at e; subst e
        rw [hx] at r1'
        obtain ⟨a, vs, rfl, h1, h2⟩ := r1'.tup
        refine .inr (.inl ⟨a, vs, rfl, h1.sq, fun hw => ?_, fun _ q hq => p.new S3.st hq _ (rel_newT S3.st hq (cutL_rel h2 l h))⟩)
        have ew : cutL xs l h = xs := by
          unfold cutL
          have e1 : cutI xs.length 0 l = 0 := by rw [h2.length]; exact hw.1
          have e2 : cutI xs.length xs.length h = xs.length := by rw [h2.length]; exact hw.2
          rw [e1, e2, List.drop_zero, Nat.sub_zero, List.take_length]
        rw [ew] at p
        exact p.here S3.st _ (.tup h1 h2)
      · rename_i s hx
        rw [hx] at r1'
        split at e
        · rename_i hf
          simp only [Option.some.injEq] at e; subst e
          rw [r1'.str]
          exact .inr (.inr ⟨s, rfl, fits_le hf, p.here S3.st _ (.str _)⟩)
        · cases e
      · cases e
end
end Iv

set_option Elab.async false
set_option linter.all false
set_option maxRecDepth 100000
set_option maxHeartbeats 4000000
/-! IvF: calls of defs, methods, classes; marks on objects. -/
namespace Iv
open PySem PySem.Spec L2
open PyProof.Rows hiding St

/-! ### syntax -/
def isStar : Expr → Bool
  | .Starred _ _ => true
  | _ => false
def notSuper : Expr → Bool
  | .Call (.Name _ _) [] [] _ => false
  | _ => true
theorem star_cons {a : Expr} {es : List Expr} {env : Env} (h : isStar a = false) : starEach (a :: es) env = (false, eval a env) :: starEach es env := by
  cases a with
  | Starred => cases h
  | _ => rfl
theorem star_plain {env : Env} : ∀ {es : List Expr}, es.all (fun e => !isStar e) = true → starEach es env = es.map fun e => (false, eval e env)
  | [], _ => rfl
  | a :: es, h => by
    rw [List.all_cons, Bool.and_eq_true] at h
    rw [star_cons (by simpa using h.1), List.map_cons, star_plain h.2]
theorem back_plain {env : Env} {es : List Expr} {pos : Pos} (h : es.all (fun e => !isStar e) = true) : (backTo pos (starEach es env)).any (·.1) = false := by
  rw [star_plain h]
  unfold backTo
  rw [List.map_map, List.any_map, List.any_eq_false]
  intro e _ z
  cases z
theorem attr_base {o : Expr} {m : Str} {env : Env} (h : notSuper o = true) (whole : Sem Value) : attributeBase o m env whole = whole := by
  unfold attributeBase
  split
  · cases h
  · rfl
theorem meth_form {o : Expr} {m : Str} {apos pos : Pos} {env : Env} {es : List Expr} (ho : notSuper o = true) (hs : es.all (fun e => !isStar e) = true) (hn : es.length < 20) (hl : (apos.endLine == pos.line) = true) :
    eval (.Call (.Attribute o m apos) es [] pos) env = (do
      let ov ← eval o env
      standAt apos.atName
      let (f, first) ← holding [ov] (getMethod ov m (plainOf o env))
      callWith pos f first (backTo pos (starEach es env)) (backToKw pos (keywordEach [] env))) := by
  have e1 : eval (.Call (.Attribute o m apos) es [] pos) env = (do
      let ov ← attributeBase o m env (eval o env)
      standAt apos.atName
      methodCall o m apos pos env ov (es.length + ([] : List Keyword).length) (backTo pos (starEach es env)) (backToKw pos (keywordEach [] env))) := rfl
  rw [e1, attr_base ho]
  have hf : methodCallForm (es.length + ([] : List Keyword).length) (backTo pos (starEach es env)) (backToKw pos (keywordEach [] env)) = true := by
    unfold methodCallForm
    have a1 : (backTo pos (starEach es env)).all (fun x => !x.1) = true := by
      rw [star_plain hs]
      unfold backTo
      rw [List.map_map, List.all_map, List.all_eq_true]
      intro e _
      rfl
    rw [a1]
    show (true && ([] : List (Option Str × Sem Value)).all _ && decide (_ < 30)) = true
    simp [backToKw, keywordEach]
    omega
  have e2 : ∀ ov, methodCall o m apos pos env ov (es.length + ([] : List Keyword).length) (backTo pos (starEach es env)) (backToKw pos (keywordEach [] env)) = (do
      let (f, first) ← holding [ov] (getMethod ov m (plainOf o env))
      callWith pos f first (backTo pos (starEach es env)) (backToKw pos (keywordEach [] env))) := fun ov => mcall_line hf hl
  congr 1
  funext ov
  congr 1
  funext _
  exact e2 ov

/-! ### a def's promise where nothing is being shown -/
structure Rm (k : Nat) (A : Around) : Prop where
  r : Room k A
  g : A.guards = some []
theorem Rm.mono {j k : Nat} {A : Around} (r : Rm k A) (h : j ≤ k) : Rm j A := ⟨r.r.mono h, r.g⟩
theorem Rm.make {k : Nat} {A : Around} (r : Rm (k + 1) A) (C : Addr) (us : List Value) (kw : List (Str × Value)) : Rm k (A.under (.builtin "type.__call__" ⟨.ref C :: us, kw⟩)) :=
  ⟨r.r.make C us kw, by
    show pushGuards (Code.guards (.builtin "type.__call__" ⟨.ref C :: us, kw⟩)) A.guards = some []
    rw [r.g]
    rfl⟩
theorem Rm.deeper {k : Nat} {A : Around} (r : Rm (k + 1) A) (env : Env) : Rm k (A.deeper env) := ⟨r.r.deeper env, r.g⟩
structure FnO (P : Program) (w : World) (K : PySem.W.Frag) (mg : Str → Option Value) (base : Heap) (CX : CXT) (k : Nat) (f : Addr) (fd : FuncData) (ps : List Str) (sp : Sp) : Prop where
  len : ∀ vs H Q E, sp vs H Q E → vs.length = ps.length
  run : ∀ (A : Around) (outer : List Env) (s : Shared) (H : Hp) (args : Args) (us : List Value) (vs : List V) (Q : VK) (E : XK), Rm k A → Env0 P w K mg base A outer s H → BindsTo s fd args (ps.zip us) → Vals vs us → sp vs H Q E →
    codeAny (model P w) A (.call (.ref f) args) (CR CX outer P w H s Q E) s
section
variable {X : Cx} {CX : CXT} {k : Nat} {f : Addr} {fd : FuncData} {ps : List Str} {sp : Sp} {dvs : List V} {ds : List Value} {E : St → XK} {x : Str} {p pos : Pos} {e : Expr} {es : List Expr} {t : TA}
theorem run_fnO {pins : List (Addr × Obj)} {σ : St} {H : Hp} {s : Shared} {Q : VK} {us : List Value} {vs : List V} (F : FnO X.prog X.w X.K X.mg X.base CX k f fd ps sp) (hr : Rm k X.A) (hb : Binds X.K fd ps ds) (hd : Vals dvs ds) (hx : PassesAt CX X σ (E σ))
    (I : Inv X pins σ H s) (r : Vals vs us) (h : sp (vs ++ dvs) H Q (E σ)) : wpAny (model X.prog X.w) X.A (call (.ref f) us) (EP X pins σ Q) X.xe s := by
  have all := r.append hd
  have n : (us ++ ds).length = ps.length := by rw [← all.length]; exact F.len _ _ _ _ h
  have go := F.run X.A X.stack s H ⟨us, []⟩ (us ++ ds) (vs ++ dvs) Q (E σ) hr I.env0 (hb s us I.kIn n) all h
  refine wpAny_call (codeAny_mono go fun r s' hq => ?_)
  match r, hq with
  | .error e, hq => exact hx pins H s e s' I hq
  | .ok (.ret u), hq => exact I.after hq
  | .ok .next, hq => exact False.elim hq
  | .ok .brk, hq => exact False.elim hq
  | .ok .cont, hq => exact False.elim hq
theorem pe_callO (F : FnO X.prog X.w X.K X.mg X.base CX k f fd ps sp) (hr : Rm k X.A) (hg : Gl X x) (hm : X.mg x = some (.ref f)) (hk : PySem.W.keepIn X.K (.ref f) = true) (hb : Binds X.K fd ps ds) (hd : Vals dvs ds) (hx : ∀ σ, PassesAt CX X σ (E σ))
    (ha : PA X (e :: es) t) (hdb : (x == ("__debug__" : Str)) = false) (he : starEach (e :: es) X.env = (false, eval e X.env) :: starEach es X.env) (hpl : (backTo pos (starEach es X.env)).any (·.1) = false) :
    PE X (.Call (.Name x p) (e :: es) [] pos) (tCallSD sp dvs E t) :=
  ⟨fun pins s σ H Q I h => wpAny_Call_Name_kw (ld_glob I hg hm (PySem.W.callWith_K (h₀ := X.base) I.ok.mod.kin hk (thn (ha.run pos pins s σ H _ I h) fun us s1 ⟨vs, H1, I1, r, q⟩ => ⟨I1.kIn, run_fnO F hr hb hd (hx σ) I1 r q⟩) he hpl) hdb)⟩
end
/-! ### calls whose exceptions are wished for at the caller's slots -/
section
variable {X : Cx} {CX : CXT} {k : Nat} {f C : Addr} {fd : FuncData} {ps : List Str} {sp : Sp} {dvs : List V} {ds : List Value} {E : St → XK} {x m : Str} {p pos apos : Pos} {e o : Expr} {es : List Expr} {ta : TE} {t : TA}
theorem pe_call0S (F : FnO X.prog X.w X.K X.mg X.base CX k f fd ps sp) (hr : Rm k X.A) (hg : Gl X x) (hm : X.mg x = some (.ref f)) (hk : PySem.W.keepIn X.K (.ref f) = true) (hb : Binds X.K fd ps ds) (hd : Vals dvs ds) (hx : ∀ σ, PassesAt CX X σ (E σ))
    (hdb : (x == ("__debug__" : Str)) = false) : PE X (.Call (.Name x p) [] [] pos) (tCallSD sp dvs E tNil) := by
  refine ⟨fun pins s σ H Q I h => ?_⟩
  refine wpAny_Call_Name_kw (ld_glob I hg hm ?_ hdb)
  exact PySem.W.callWith_K0 I.kIn hk (run_fnO (us := []) F hr hb hd (hx σ) I .nil h)
/-- a call of what slot i holds -/
def tCallV (i : Nat) (Fs : Addr → Sp → Prop) (E : St → XK) (t : TA) : TE := fun σ H Q => ∃ f sp, σ[i]? = some (some (.ref f)) ∧ Fs f sp ∧ t σ H fun vs H1 => sp vs H1 Q (E σ)
theorem pe_callV {i : Nat} {Fs : Addr → Sp → Prop} (A : ∀ f sp, Fs f sp → ∃ fd ps, FnO X.prog X.w X.K X.mg X.base CX k f fd ps sp ∧ PySem.W.keepIn X.K (.ref f) = true ∧ Binds X.K fd ps []) (hr : Rm k X.A) (hN : X.N[i]? = some x) (hv : Vis X.env.scope x)
    (hx : ∀ σ, PassesAt CX X σ (E σ)) (ha : PA X (e :: es) t) (hdb : (x == ("__debug__" : Str)) = false) (hcd : (x == ("__classdict__" : Str)) = false)
    (he : starEach (e :: es) X.env = (false, eval e X.env) :: starEach es X.env) (hpl : (backTo pos (starEach es X.env)).any (·.1) = false) : PE X (.Call (.Name x p) (e :: es) [] pos) (tCallV i Fs E t) := by
  refine ⟨fun pins s σ H Q I h => ?_⟩
  obtain ⟨f, sp, hs, hS, ht⟩ := h
  obtain ⟨fd, ps, F, hk, hb⟩ := A f sp hS
  refine wpAny_Call_Name_kw (thn ((pe_var (pos := p) hN hv hdb hcd).run pins s σ H (fun v H1 => v = .ref f ∧ H1 = H) I ⟨.ref f, hs, rfl, rfl⟩) fun u s1 ⟨v, H1, I1, r1, q1⟩ => ?_)
  obtain ⟨rfl, rfl⟩ := q1
  cases r1
  refine PySem.W.callWith_K (h₀ := X.base) I.ok.mod.kin hk (thn (ha.run pos pins s1 σ _ _ I1 ht) fun us s2 ⟨vs, H2, I2, r, q⟩ => ⟨I2.kIn, ?_⟩) he hpl
  exact run_fnO (dvs := []) (ds := []) F hr hb .nil (hx σ) I2 r (by rw [List.append_nil]; exact q)
def tMethS (m : Str) (Ms : Addr → Addr → Sp → Prop) (E : St → XK) (ta : TE) (t : TA) : TE := fun σ H Q => ta σ H fun x H1 => ∃ a C dx fs f sp, x = .ref a ∧ H1 a = some (.ins C dx fs) ∧ fs.lookup m = none ∧ Ms C f sp ∧
  t σ H1 fun vs H2 => sp (x :: vs) H2 Q (E σ)
theorem pe_methS {pl : Sem Bool} {Ms : Addr → Addr → Sp → Prop} (A : ∀ C f sp, Ms C f sp → Cls X.K C ∧ Meth X.K C m f ∧ ∃ fd ps, FnO X.prog X.w X.K X.mg X.base CX k f fd ps sp ∧ Binds X.K fd ps []) (he : PE X o ta) (hr : Rm k X.A)
    (hx : ∀ σ, PassesAt CX X σ (E σ)) (ha : PA X (e :: es) t) (hst : starEach (e :: es) X.env = (false, eval e X.env) :: starEach es X.env) (hpl : (backTo pos (starEach es X.env)).any (·.1) = false)
    (ht : eval (.Call (.Attribute o m apos) (e :: es) [] pos) X.env = (do
      let ov ← eval o X.env
      standAt apos.atName
      let (f, first) ← holding [ov] (getMethod ov m pl)
      callWith pos f first (backTo pos (starEach (e :: es) X.env)) (backToKw pos (keywordEach [] X.env)))) :
    PE X (.Call (.Attribute o m apos) (e :: es) [] pos) (tMethS m Ms E ta t) := by
  refine ⟨fun pins s σ H Q I h => ?_⟩
  refine PySem.W.methodCall_KW (pl := pl) (thn (he.run pins s σ H _ I h) fun u s1 ⟨x, H1, I1, rx, a, C, dx, fs, f, sp, ex, ea, l, hM, q⟩ => ?_) ht
  obtain ⟨c, hm, fd, ps, F, hb⟩ := A C f sp hM
  subst ex
  obtain rfl : u = Value.ref a := rx
  refine getmeth_ok I1 ea c hm l ?_
  refine PySem.W.callWith_K (first := [.ref a]) (h₀ := X.base) I.ok.mod.kin hm.kp (thn (ha.run pos pins s1 σ H1 _ I1 q) fun us s2 ⟨vs, H2, I2, r, q2⟩ => ⟨I2.kIn, ?_⟩) hst hpl
  exact run_fnO (us := .ref a :: us) (vs := .ref a :: vs) (dvs := []) (ds := []) F hr hb .nil (hx σ) I2 (.cons rfl r) (by rw [List.append_nil]; exact q2)
theorem pe_meth0S {pl : Sem Bool} {Ms : Addr → Addr → Sp → Prop} (A : ∀ C f sp, Ms C f sp → Cls X.K C ∧ Meth X.K C m f ∧ ∃ fd ps, FnO X.prog X.w X.K X.mg X.base CX k f fd ps sp ∧ Binds X.K fd ps []) (he : PE X o ta) (hr : Rm k X.A)
    (hx : ∀ σ, PassesAt CX X σ (E σ))
    (ht : eval (.Call (.Attribute o m apos) [] [] pos) X.env = (do
      let ov ← eval o X.env
      standAt apos.atName
      let (f, first) ← holding [ov] (getMethod ov m pl)
      callWith pos f first (backTo pos (starEach [] X.env)) (backToKw pos (keywordEach [] X.env)))) :
    PE X (.Call (.Attribute o m apos) [] [] pos) (tMethS m Ms E ta tNil) := by
  refine ⟨fun pins s σ H Q I h => ?_⟩
  refine PySem.W.methodCall_KW (pl := pl) (thn (he.run pins s σ H _ I h) fun u s1 ⟨x, H1, I1, rx, a, C, dx, fs, f, sp, ex, ea, l, hM, q⟩ => ?_) ht
  obtain ⟨c, hm, fd, ps, F, hb⟩ := A C f sp hM
  subst ex
  obtain rfl : u = Value.ref a := rx
  refine getmeth_ok I1 ea c hm l ?_
  exact PySem.W.callWith_K0 (first := [.ref a]) I1.kIn hm.kp (run_fnO (us := [.ref a]) (vs := [.ref a]) (dvs := []) (ds := []) F hr hb .nil (hx σ) I1 (.cons rfl .nil) q)
theorem run_makeS {pins : List (Addr × Obj)} {σ : St} {H : Hp} {s : Shared} {Q : VK} {us : List Value} {vs : List V} {E : XK} (M : Mk X.K C f) (F : FnO X.prog X.w X.K X.mg X.base CX k f fd ps sp) (hr : Rm (k + 1) X.A) (hb : Binds X.K fd ps ds) (hd : Vals dvs ds)
    (hx : PassesAt CX X σ E) (I : Inv X pins σ H s) (r : Vals vs us)
    (h : ∀ x dx, H x = none → H dx = none → dx ≠ x → sp (.ref x :: (vs ++ dvs)) (upd (upd H dx (.own x)) x (.ins C dx [])) (fun v H2 => v = .non ∧ Q (.ref x) H2) E) :
    wpAny (model X.prog X.w) X.A (call (.ref C) us) (EP X pins σ Q) X.xe s := by
  have hq := h (s.heap.objs.size + 1) s.heap.objs.size (I.hok.fresh (Nat.le_succ _)) (I.hok.fresh (Nat.le_refl _)) (Nat.ne_of_lt (Nat.lt_succ_self _))
  have I2 := Inv.made (C := C) I
  have r2 : Vals (V.ref (s.heap.objs.size + 1) :: (vs ++ dvs)) (Value.ref (s.heap.objs.size + 1) :: (us ++ ds)) := .cons rfl (r.append hd)
  have hl : (Value.ref (s.heap.objs.size + 1) :: us ++ ds).length = ps.length := by
    have e := r2.length
    rw [F.len _ _ _ _ hq] at e
    exact e.symm
  refine wpAny_call (make_map (f := f) I.kIn M.makes M.init (beq_iff_eq.mp M.fn) (codeAny_mono (F.run _ X.stack _ _ ⟨Value.ref (s.heap.objs.size + 1) :: us, []⟩ (Value.ref (s.heap.objs.size + 1) :: (us ++ ds)) _ _ E (hr.make C us [])
    (I2.env0.make C us []) (hb _ (Value.ref (s.heap.objs.size + 1) :: us) I2.kIn hl) r2 hq) fun r s' hq' => ?_))
  cases r with
  | error e => exact hx pins _ _ e s' I2 hq'
  | ok fl =>
    cases fl with
    | ret u =>
      obtain ⟨v, H', I3, rv, ev, q3⟩ := I2.after hq'
      subst ev
      exact ⟨rv, ⟨V.ref (s.heap.objs.size + 1), H', I3, rfl, q3⟩⟩
    | next => exact False.elim hq'
    | brk => exact False.elim hq'
    | cont => exact False.elim hq'
def tMakeS (C : Addr) (sp : Sp) (dvs : List V) (E : St → XK) (t : TA) : TE := fun σ H Q => t σ H fun vs H1 => ∀ x dx, H1 x = none → H1 dx = none → dx ≠ x →
  sp (.ref x :: (vs ++ dvs)) (upd (upd H1 dx (.own x)) x (.ins C dx [])) (fun v H2 => v = .non ∧ Q (.ref x) H2) (E σ)
theorem pe_makeS (M : Mk X.K C f) (F : FnO X.prog X.w X.K X.mg X.base CX k f fd ps sp) (hr : Rm (k + 1) X.A) (hg : Gl X x) (hm : X.mg x = some (.ref C)) (hb : Binds X.K fd ps ds) (hd : Vals dvs ds) (hx : ∀ σ, PassesAt CX X σ (E σ))
    (ha : PA X (e :: es) t) (hdb : (x == ("__debug__" : Str)) = false) (he : starEach (e :: es) X.env = (false, eval e X.env) :: starEach es X.env) (hpl : (backTo pos (starEach es X.env)).any (·.1) = false) :
    PE X (.Call (.Name x p) (e :: es) [] pos) (tMakeS C sp dvs E t) := by
  refine ⟨fun pins s σ H Q I h => ?_⟩
  refine wpAny_Call_Name_kw (ld_glob I hg hm ?_ hdb)
  refine PySem.W.callWith_K (h₀ := X.base) I.ok.mod.kin M.kp (thn (ha.run pos pins s σ H _ I h) fun us s1 ⟨vs, H1, I1, r, q⟩ => ⟨I1.kIn, ?_⟩) he hpl
  exact run_makeS M F hr hb hd (hx σ) I1 r q
theorem pe_make0S (M : Mk X.K C f) (F : FnO X.prog X.w X.K X.mg X.base CX k f fd ps sp) (hr : Rm (k + 1) X.A) (hg : Gl X x) (hm : X.mg x = some (.ref C)) (hb : Binds X.K fd ps ds) (hd : Vals dvs ds) (hx : ∀ σ, PassesAt CX X σ (E σ))
    (hdb : (x == ("__debug__" : Str)) = false) : PE X (.Call (.Name x p) [] [] pos) (tMakeS C sp dvs E tNil) := by
  refine ⟨fun pins s σ H Q I h => ?_⟩
  refine wpAny_Call_Name_kw (ld_glob I hg hm ?_ hdb)
  exact PySem.W.callWith_K0 I.kIn M.kp (run_makeS (us := []) M F hr hb hd (hx σ) I .nil h)
end

/-! ### what a def promises, by the language -/
def spF (B : Base) (F : List D → Store → R D) : Sp := fun vs H Q E => ∃ ω st ds, SimSt B ω st H ∧ RelDs B ω H ds vs ∧
  Post B (fun c d _ H' => E c d H') ω H [] (F ds st) fun d _ ω' H' => ∀ v, RelD B ω' H' d v → Q v H'
/-- an __init__: its first argument is the new instance of class c -/
def spI (B : Base) (c : Nat) (F : List D → Store → R D) : Sp := fun vs H Q E => ∃ ω st ds x dx ws H0, vs = .ref x :: ws ∧ H0 x = none ∧ H0 dx = none ∧ dx ≠ x ∧ H = upd (upd H0 dx (.own x)) x (.ins (B.T.ca c) dx []) ∧ SimSt B ω st H0 ∧ RelDs B ω H0 ds ws ∧
  Post B (fun c d _ H' => E c d H') ω H0 [] (F ds st) fun d _ ω' H' => RelD B ω' H' d (.ref x) → Q .non H'
theorem Post.wish {α : Type} {B : Base} {W W' : WX} {ω : Wd} {H : Hp} {σ σ' : St} {r : R α} {k k' : α → Store → Wd → Hp → Prop} (h : Post B W ω H σ r k) (w : ∀ c d H, W c d σ H → W' c d σ' H) (f : ∀ a s ω' H', k a s ω' H' → k' a s ω' H') : Post B W' ω H σ' r k' := by
  cases r with
  | ok a s => exact fun ω' H' e z => f _ _ _ _ (h ω' H' e z)
  | exc c fs s => exact fun ω' H' dx e z a => w _ _ _ (h ω' H' dx e z a)
  | stuck => exact h
/-- what is known of a def: at level n it does F -/
structure FnF (X : Cx) (T : Tab) (n : Nat) (f : Nat) (dvs : List V) (sp : Sp) : Prop where
  ex : ∃ fd ps ds, FnO X.prog X.w X.K X.mg X.base (L2.CX X.prog X.w) n (T.fa f) fd ps sp ∧ PySem.W.keepIn X.K (.ref (T.fa f)) = true ∧ Binds X.K fd ps ds ∧ Vals dvs ds
section
variable {X : Cx} {C : Cf} {P : Pt} {G : Fns} {a b e o : Expr} {ia io : Ex} {pos p apos : Pos} {es : List Expr} {is : List Ex} {n f c : Nat} {x : Str}
theorem ok_call (F : FnF X C.T n f [] (spF (bs X C) (G.call f))) (tk : Takes X C.W) (hr : Rm n X.A) (hg : Gl X x) (hm : X.mg x = some (.ref (C.T.fa f))) (hdb : (x == ("__debug__" : Str)) = false)
    (hs : es.all (fun e => !isStar e) = true) (hl : is.length = es.length) (ha : OkA X C P G is es) : OkE X C P G (.call f is) (.Call (.Name x p) es [] pos) := by
  obtain ⟨fd, ps, ds, F1, hk, hb, hd⟩ := F.ex
  have fin : ∀ σ H Q, tI (bs X C) C (ev P G C.xh (.call f is)) σ H Q → tCallSD (spF (bs X C) (G.call f)) [] (WE C.W) (tA (bs X C) C (evs P G C.xh is)) σ H Q := fun σ H Q ⟨ω, env, st, S, q⟩ => by
    unfold ev at q
    refine tA.step S q fun xs s1 ω1 H1 vs e1 S1 r1 q1 => ?_
    rw [List.append_nil]
    exact ⟨ω1, s1, xs, S1.st, r1, q1.wish (fun _ _ _ w => w) fun _ _ _ _ k => k⟩
  cases es with
  | nil =>
    cases is with
    | cons i is => cases hl
    | nil =>
      refine pe_weak (pe_call0S F1 hr hg hm hk hb hd (fun σ => passAt tk σ) hdb) fun σ H Q q => ?_
      obtain ⟨ω, env, st, S, q⟩ := fin σ H Q q
      unfold evs at q
      exact q.here S.st _ .nil
  | cons e es =>
    rw [List.all_cons, Bool.and_eq_true] at hs
    exact pe_weak (pe_callO F1 hr hg hm hk hb hd (fun σ => passAt tk σ) ha hdb (star_cons (by simpa using hs.1)) (back_plain hs.2)) fin
theorem ok_callv {i : Nat} (F : ∀ f, P.isFn f = true → FnF X C.T n f [] (spF (bs X C) (G.call f))) (tk : Takes X C.W) (hr : Rm n X.A) (hN : X.N[i]? = some x) (hv : Vis X.env.scope x) (hdb : (x == ("__debug__" : Str)) = false) (hcd : (x == ("__classdict__" : Str)) = false)
    (hs : (e :: es).all (fun e => !isStar e) = true) (ha : OkA X C P G is (e :: es)) : OkE X C P G (.callv i is) (.Call (.Name x p) (e :: es) [] pos) := by
  rw [List.all_cons, Bool.and_eq_true] at hs
  refine pe_weak (pe_callV (i := i) (Fs := fun a sp => ∃ f, P.isFn f = true ∧ a = C.T.fa f ∧ sp = spF (bs X C) (G.call f)) (E := WE C.W) (fun a sp hf => ?_) hr hN hv (fun σ => passAt tk σ) ha hdb hcd (star_cons (by simpa using hs.1)) (back_plain hs.2)) fun σ H Q ⟨ω, env, st, S, q⟩ => ?_
  · obtain ⟨f, h1, rfl, rfl⟩ := hf
    obtain ⟨fd, ps, ds, F1, hk, hb, hd⟩ := (F f h1).ex
    cases hd
    exact ⟨fd, ps, F1, hk, hb⟩
  · unfold ev at q
    split at q
    · rename_i f hi
      split at q
      · rename_i hf
        obtain ⟨v, h1, h2⟩ := S.env.val i _ hi
        cases h2
        refine ⟨_, _, h1, ⟨f, hf, rfl, rfl⟩, ?_⟩
        refine tA.step S q fun xs s1 ω1 H1 vs e1 S1 r1 q1 => ?_
        exact ⟨ω1, s1, xs, S1.st, r1, q1.wish (fun _ _ _ w => w) fun _ _ _ _ k => k⟩
      · exact q.elim
    · exact q.elim
theorem RelFs.none {B : Base} (inj : ∀ a b, B.T.nm a = B.T.nm b → a = b) {ω : Wd} {H : Hp} {m : Nat} : ∀ {fs : List (Nat × D)} {vs : List (Str × V)}, RelFs B ω H fs vs → fs.lookup m = none → vs.lookup (B.T.nm m) = none
  | _, _, .nil, _ => rfl
  | _, _, @RelFs.cons _ _ _ n d fs v vs r t, h => by
    rw [List.lookup_cons] at h ⊢
    cases e : (m == n) with
    | true => rw [e] at h; cases h
    | false =>
      rw [e] at h
      have e2 : (B.T.nm m == B.T.nm n) = false := by
        rw [beq_eq_false_iff_ne]
        intro z
        rw [inj _ _ z] at e
        simp at e
      rw [e2]
      exact RelFs.none inj t h
theorem RelFs.some {B : Base} (inj : ∀ a b, B.T.nm a = B.T.nm b → a = b) {ω : Wd} {H : Hp} {m : Nat} {d : D} : ∀ {fs : List (Nat × D)} {vs : List (Str × V)}, RelFs B ω H fs vs → fs.lookup m = some d → ∃ v, vs.lookup (B.T.nm m) = some v ∧ RelD B ω H d v
  | _, _, .nil, h => by cases h
  | _, _, @RelFs.cons _ _ _ n d' fs v vs r t, h => by
    rw [List.lookup_cons] at h ⊢
    cases e : (m == n) with
    | true =>
      rw [e] at h
      cases h
      have e2 : m = n := by simpa using e
      subst e2
      exact ⟨v, by simp, r⟩
    | false =>
      rw [e] at h
      have e2 : (B.T.nm m == B.T.nm n) = false := by
        rw [beq_eq_false_iff_ne]
        intro z
        rw [inj _ _ z] at e
        simp at e
      rw [e2]
      exact RelFs.some inj t h
theorem ok_meth {m : Nat} (inj : ∀ a b, C.T.nm a = C.T.nm b → a = b) (F : ∀ c f, P.meth c m = some f → Cls X.K (C.T.ca c) ∧ Meth X.K (C.T.ca c) (C.T.nm m) (C.T.fa f) ∧ FnF X C.T n f [] (spF (bs X C) (G.call f))) (tk : Takes X C.W) (hr : Rm n X.A)
    (ho : notSuper o = true) (hs : es.all (fun e => !isStar e) = true) (hn : es.length < 20) (hl : (apos.endLine == pos.line) = true) (hle : is.length = es.length) (he : OkE X C P G io o) (ha : OkA X C P G is es) :
    OkE X C P G (.meth io m is) (.Call (.Attribute o (C.T.nm m) apos) es [] pos) := by
  have A : ∀ Ca fa sp, (∃ c f, P.meth c m = some f ∧ Ca = C.T.ca c ∧ fa = C.T.fa f ∧ sp = spF (bs X C) (G.call f)) → Cls X.K Ca ∧ Meth X.K Ca (C.T.nm m) fa ∧ ∃ fd ps, FnO X.prog X.w X.K X.mg X.base (L2.CX X.prog X.w) n fa fd ps sp ∧ Binds X.K fd ps [] := by
    rintro Ca fa sp ⟨c, f, h1, rfl, rfl, rfl⟩
    obtain ⟨k1, k2, k3⟩ := F c f h1
    obtain ⟨fd, ps, ds, F1, hk, hb, hd⟩ := k3.ex
    cases hd
    exact ⟨k1, k2, fd, ps, F1, hb⟩
  have fin : ∀ σ H Q, tI (bs X C) C (ev P G C.xh (.meth io m is)) σ H Q → tMethS (C.T.nm m) (fun Ca fa sp => ∃ c f, P.meth c m = some f ∧ Ca = C.T.ca c ∧ fa = C.T.fa f ∧ sp = spF (bs X C) (G.call f)) (WE C.W) (tI (bs X C) C (ev P G C.xh io)) (tA (bs X C) C (evs P G C.xh is)) σ H Q := fun σ H Q ⟨ω, env, st, S, q⟩ => by
    unfold ev at q
    refine tI.step S q fun x s1 ω1 H1 vx e1 S1 r1 q1 => ?_
    split at q1
    · rename_i c fs hx
      split at q1
      · rename_i f hlk hmm
        have rx := der_vw (.inl r1) S1.st
        rw [hx] at rx
        obtain ⟨a, dx, vs, rfl, h1, h2⟩ := rx.obj
        refine ⟨a, _, dx, vs, _, _, rfl, h1, h2.none inj hlk, ⟨c, f, hmm, rfl, rfl, rfl⟩, ?_⟩
        refine tA.step S1 q1 fun xs s2 ω2 H2 ws e2 S2 r2 q2 => ?_
        exact ⟨ω2, s2, x :: xs, S2.st, .cons (r1.keep e2.keep) r2, q2.wish (fun _ _ _ w => w) fun _ _ _ _ k => k⟩
      · exact q1.elim
    · exact q1.elim
  cases es with
  | nil =>
    cases is with
    | cons i is => cases hle
    | nil =>
      refine pe_weak (pe_meth0S (pl := plainOf o X.env) A he hr (fun σ => passAt tk σ) (meth_form ho hs hn hl)) fun σ H Q q => ?_
      have q' := fin σ H Q q
      obtain ⟨ω, env, st, S, q0⟩ := q'
      refine ⟨ω, env, st, S, q0.imp fun d s ω' H' e z k v r => ?_⟩
      obtain ⟨a, Ca, dx, fs, f, sp, h1, h2, h3, h4, ω2, env2, st2, S2, q2⟩ := k v r
      unfold evs at q2
      exact ⟨a, Ca, dx, fs, f, sp, h1, h2, h3, h4, q2.here S2.st _ .nil⟩
  | cons e es =>
    have hs' := hs
    rw [List.all_cons, Bool.and_eq_true] at hs'
    exact pe_weak (pe_methS (pl := plainOf o X.env) A he hr (fun σ => passAt tk σ) ha (star_cons (by simpa using hs'.1)) (back_plain hs'.2) (meth_form ho hs hn hl)) fin
/-- what is known of a class: its __init__ makes -/
structure FnM (X : Cx) (T : Tab) (n : Nat) (c : Nat) (dvs : List V) (sp : Sp) : Prop where
  ex : ∃ f fd ps ds, Mk X.K (T.ca c) f ∧ FnO X.prog X.w X.K X.mg X.base (L2.CX X.prog X.w) n f fd ps sp ∧ Binds X.K fd ps ds ∧ Vals dvs ds
theorem ok_mk (F : FnM X C.T n c [] (spI (bs X C) c (G.make c))) (tk : Takes X C.W) (hr : Rm (n + 1) X.A) (hg : Gl X x) (hm : X.mg x = some (.ref (C.T.ca c))) (hdb : (x == ("__debug__" : Str)) = false)
    (hs : es.all (fun e => !isStar e) = true) (hl : is.length = es.length) (ha : OkA X C P G is es) : OkE X C P G (.mk c is) (.Call (.Name x p) es [] pos) := by
  obtain ⟨f, fd, ps, ds, M, F1, hb, hd⟩ := F.ex
  have fin : ∀ σ H Q, tI (bs X C) C (ev P G C.xh (.mk c is)) σ H Q → tMakeS (C.T.ca c) (spI (bs X C) c (G.make c)) [] (WE C.W) (tA (bs X C) C (evs P G C.xh is)) σ H Q := fun σ H Q ⟨ω, env, st, S, q⟩ => by
    unfold ev at q
    refine tA.step S q fun xs s1 ω1 H1 vs e1 S1 r1 q1 => ?_
    intro x dx hx hdx hne
    rw [List.append_nil]
    exact ⟨ω1, s1, xs, x, dx, vs, H1, rfl, hx, hdx, hne, rfl, S1.st, r1, q1.wish (fun _ _ _ w => w) fun _ _ _ _ k r => ⟨rfl, k _ r⟩⟩
  cases es with
  | nil =>
    cases is with
    | cons i is => cases hl
    | nil =>
      refine pe_weak (pe_make0S M F1 hr hg hm hb hd (fun σ => passAt tk σ) hdb) fun σ H Q q => ?_
      obtain ⟨ω, env, st, S, q⟩ := fin σ H Q q
      unfold evs at q
      exact q.here S.st _ .nil
  | cons e es =>
    rw [List.all_cons, Bool.and_eq_true] at hs
    exact pe_weak (pe_makeS M F1 hr hg hm hb hd (fun σ => passAt tk σ) ha hdb (star_cons (by simpa using hs.1)) (back_plain hs.2)) fin
theorem ok_att {m : Nat} (inj : ∀ a b, C.T.nm a = C.T.nm b → a = b) (F : ∀ c, P.isAt c m = true → Cls X.K (C.T.ca c) ∧ NoAttr X.K (C.T.ca c) (C.T.nm m)) (ho : notSuper o = true) (he : OkW X C P G io o) : OkE X C P G (.att io m) (.Attribute o (C.T.nm m) pos) := by
  refine pe_weak (pe_fld he (attr_base ho _)) fun σ H Q ⟨ω, env, st, S, q⟩ => ?_
  unfold ev at q
  refine tW.step S q fun x s1 ω1 H1 vx e1 S1 r1 q1 => ?_
  split at q1
  · rename_i c fs hx
    split at q1
    · rename_i hat
      obtain ⟨d, e, pp⟩ := q1.lift
      have rx := der_vw r1 S1.st
      rw [hx] at rx
      obtain ⟨a, dx, vs, rfl, h1, h2⟩ := rx.obj
      obtain ⟨v, h3, h4⟩ := h2.some inj e
      obtain ⟨k1, k2⟩ := F c hat
      exact ⟨a, _, dx, vs, v, rfl, h1, k1, k2, h3, pp.here S1.st v h4⟩
    · exact q1.elim
  · exact q1.elim
end
end Iv

set_option Elab.async false
set_option linter.all false
set_option maxRecDepth 100000
set_option maxHeartbeats 4000000
/-! IvG: built-in functions, isinstance. -/
namespace Iv
open PySem PySem.Spec L2
open PyProof.Rows hiding St

inductive Vws (B : Base) (ω : Wd) (H : Hp) : List D → List V → Prop
  | nil : Vws B ω H [] []
  | cons {d ds v vs} : Vw B ω H d v → Vws B ω H ds vs → Vws B ω H (d :: ds) (v :: vs)
theorem Bws.der {B : Base} {ω : Wd} {H : Hp} {st : Store} (s : SimSt B ω st H) : ∀ {ds : List D} {vs : List V}, Bws B ω H ds vs → Vws B ω H (ds.map (der st)) vs
  | _, _, .nil => .nil
  | _, _, .cons r t => .cons (der_vw r s) (Bws.der s t)
section
variable {X : Cx} {C : Cf}
abbrev BfOk (X : Cx) (C : Cf) (f : Value) (g : List D → Option D) : Prop := ∃ r, CallR X f r ∧
  ∀ ω st σ H ds vs Q, SimSt (bs X C) ω st H → Vws (bs X C) ω H ds vs → Post (bs X C) C.W ω H σ (lift (g ds) st) (fun d _ ω' H' => ∀ v, RelD (bs X C) ω' H' d v → Q v H') → r vs H Q
theorem vws1 {B : Base} {ω : Wd} {H : Hp} {d : D} {vs : List V} (r : Vws B ω H [d] vs) : ∃ v, vs = [v] ∧ Vw B ω H d v := by
  cases r with | cons r t => cases t; exact ⟨_, rfl, r⟩
theorem vws2 {B : Base} {ω : Wd} {H : Hp} {d e : D} {vs : List V} (r : Vws B ω H [d, e] vs) : ∃ v u, vs = [v, u] ∧ Vw B ω H d v ∧ Vw B ω H e u := by
  cases r with | cons r t => cases t with | cons q t => cases t; exact ⟨_, _, rfl, r, q⟩
theorem intsD_rel {B : Base} {ω : Wd} {H : Hp} : ∀ {xs : List D} {vs : List V} {ns : List Int}, intsD xs = some ns → RelDs B ω H xs vs → vs = ns.map V.int
  | [], _, _, h, r => by cases r; simp only [intsD, Option.some.injEq] at h; subst h; rfl
  | .int i :: xs, _, ns, h, r => by
    cases r with
    | cons r t =>
      simp only [intsD] at h
      cases e : intsD xs with
      | none => rw [e] at h; cases h
      | some ms =>
        rw [e] at h
        simp only [Option.map_some, Option.some.injEq] at h; subst h
        cases r
        rw [intsD_rel e t]; rfl
  | .non :: _, _, _, h, _ => by cases h
  | .bl _ :: _, _, _, h, _ => by cases h
  | .str _ :: _, _, _, h, _ => by cases h
  | .tup _ :: _, _, _, h, _ => by cases h
  | .lst _ :: _, _, _, h, _ => by cases h
  | .obj _ _ :: _, _, _, h, _ => by cases h
  | .fn _ :: _, _, _, h, _ => by cases h
  | .loc _ :: _, _, _, h, _ => by cases h
theorem bolsD_rel {B : Base} {ω : Wd} {H : Hp} : ∀ {xs : List D} {vs : List V} {ns : List Bool}, bolsD xs = some ns → RelDs B ω H xs vs → vs = ns.map V.bl
  | [], _, _, h, r => by cases r; simp only [bolsD, Option.some.injEq] at h; subst h; rfl
  | .bl i :: xs, _, ns, h, r => by
    cases r with
    | cons r t =>
      simp only [bolsD] at h
      cases e : bolsD xs with
      | none => rw [e] at h; cases h
      | some ms =>
        rw [e] at h
        simp only [Option.map_some, Option.some.injEq] at h; subst h
        cases r
        rw [bolsD_rel e t]; rfl
  | .non :: _, _, _, h, _ => by cases h
  | .int _ :: _, _, _, h, _ => by cases h
  | .str _ :: _, _, _, h, _ => by cases h
  | .tup _ :: _, _, _, h, _ => by cases h
  | .lst _ :: _, _, _, h, _ => by cases h
  | .obj _ _ :: _, _, _, h, _ => by cases h
  | .fn _ :: _, _, _, h, _ => by cases h
  | .loc _ :: _, _, _, h, _ => by cases h

theorem len_ok : BfOk X C (.builtin "len") lenD := by
  refine ⟨_, call_len, fun ω st σ H ds vs Q z r q => ?_⟩
  obtain ⟨d, e, p⟩ := q.lift
  clear q
  unfold lenD at e
  split at e
  · obtain ⟨v, rfl, w⟩ := vws1 r
    obtain ⟨a, vs, rfl, h1, h2⟩ := w.lst
    simp only [Option.some.injEq] at e; subst e
    exact ⟨_, vs.length, rfl, .inl ⟨vs, h1, rfl⟩, p.here z _ (by rw [h2.length]; exact .int _)⟩
  · obtain ⟨v, rfl, w⟩ := vws1 r
    obtain ⟨a, vs, rfl, h1, h2⟩ := w.tup
    simp only [Option.some.injEq] at e; subst e
    exact ⟨_, vs.length, rfl, .inr ⟨vs, h1.sq, rfl⟩, p.here z _ (by rw [h2.length]; exact .int _)⟩
  · obtain ⟨v, rfl, w⟩ := vws1 r
    split at e
    · rename_i s hf
      simp only [Option.some.injEq] at e; subst e
      rw [w.str]
      exact ⟨_, s.length, rfl, ⟨fits_le hf, rfl⟩, p.here z _ (.int _)⟩
    · cases e
  · cases e
theorem tuple_ok : BfOk X C (.type "tuple") tupleD := by
  refine ⟨_, call_tuple_of, fun ω st σ H ds vs Q z r q => ?_⟩
  obtain ⟨d, e, p⟩ := q.lift
  clear q
  unfold tupleD at e
  split at e
  · obtain ⟨v, rfl, w⟩ := vws1 r
    obtain ⟨a, vs, rfl, h1, h2⟩ := w.lst
    simp only [Option.some.injEq] at e; subst e
    exact ⟨a, vs, rfl, .inl ⟨h1, fun q hq => p.new z hq _ (rel_newT z hq h2)⟩⟩
  · obtain ⟨v, rfl, w⟩ := vws1 r
    obtain ⟨a, vs, rfl, h1, h2⟩ := w.tup
    simp only [Option.some.injEq] at e; subst e
    exact ⟨a, vs, rfl, .inr ⟨h1.sq, p.here z _ (.tup h1 h2)⟩⟩
  · cases e
theorem list_ok : BfOk X C (.type "list") listD := by
  refine ⟨_, call_list_of, fun ω st σ H ds vs Q z r q => ?_⟩
  obtain ⟨d, e, p⟩ := q.lift
  clear q
  unfold listD at e
  split at e
  · obtain ⟨v, rfl, w⟩ := vws1 r
    obtain ⟨a, vs, rfl, h1, h2⟩ := w.lst
    simp only [Option.some.injEq] at e; subst e
    exact ⟨a, vs, rfl, .inl h1, fun q hq => p.new z hq _ (rel_newL z hq h2)⟩
  · obtain ⟨v, rfl, w⟩ := vws1 r
    obtain ⟨a, vs, rfl, h1, h2⟩ := w.tup
    simp only [Option.some.injEq] at e; subst e
    exact ⟨a, vs, rfl, .inr h1.sq, fun q hq => p.new z hq _ (rel_newL z hq h2)⟩
  · cases e
theorem maxF {x : Int} : ∀ {r : List Int} {a : Int}, a = r.foldl (fun m y => if y > m then y else m) x → (a = x ∨ a ∈ r) ∧ x ≤ a ∧ ∀ y ∈ r, y ≤ a := by
  intro r
  induction r generalizing x with
  | nil => intro a h; subst h; exact ⟨.inl rfl, Int.le_refl _, fun _ h => nomatch h⟩
  | cons y r ih =>
    intro a h
    rw [List.foldl_cons] at h
    obtain ⟨h1, h2, h3⟩ := ih h
    by_cases hy : y > x
    · rw [if_pos hy] at h1 h2
      refine ⟨.inr ?_, by omega, fun z hz => ?_⟩
      · rcases h1 with h1 | h1
        · rw [h1]; exact List.mem_cons_self
        · exact List.mem_cons_of_mem _ h1
      · rcases List.mem_cons.mp hz with rfl | hz
        · exact h2
        · exact h3 z hz
    · rw [if_neg hy] at h1 h2
      refine ⟨?_, h2, fun z hz => ?_⟩
      · rcases h1 with h1 | h1
        · exact .inl h1
        · exact .inr (List.mem_cons_of_mem _ h1)
      · rcases List.mem_cons.mp hz with rfl | hz
        · omega
        · exact h3 z hz
theorem minF {x : Int} : ∀ {r : List Int} {a : Int}, a = r.foldl (fun m y => if y < m then y else m) x → (a = x ∨ a ∈ r) ∧ a ≤ x ∧ ∀ y ∈ r, a ≤ y := by
  intro r
  induction r generalizing x with
  | nil => intro a h; subst h; exact ⟨.inl rfl, Int.le_refl _, fun _ h => nomatch h⟩
  | cons y r ih =>
    intro a h
    rw [List.foldl_cons] at h
    obtain ⟨h1, h2, h3⟩ := ih h
    by_cases hy : y < x
    · rw [if_pos hy] at h1 h2
      refine ⟨.inr ?_, by omega, fun z hz => ?_⟩
      · rcases h1 with h1 | h1
        · rw [h1]; exact List.mem_cons_self
        · exact List.mem_cons_of_mem _ h1
      · rcases List.mem_cons.mp hz with rfl | hz
        · exact h2
        · exact h3 z hz
    · rw [if_neg hy] at h1 h2
      refine ⟨?_, h2, fun z hz => ?_⟩
      · rcases h1 with h1 | h1
        · exact .inl h1
        · exact .inr (List.mem_cons_of_mem _ h1)
      · rcases List.mem_cons.mp hz with rfl | hz
        · omega
        · exact h3 z hz
theorem maxI_ok {ns : List Int} {m : Int} (h : maxI ns = some m) : m ∈ ns ∧ ∀ y ∈ ns, y ≤ m := by
  cases ns with
  | nil => cases h
  | cons x r =>
    obtain ⟨h1, h2, h3⟩ := maxF (x := x) (r := r) (Option.some.inj h).symm
    refine ⟨?_, fun y hy => ?_⟩
    · rcases h1 with h1 | h1
      · rw [h1]; exact List.mem_cons_self
      · exact List.mem_cons_of_mem _ h1
    · rcases List.mem_cons.mp hy with rfl | hy
      · exact h2
      · exact h3 y hy
theorem minI_ok {ns : List Int} {m : Int} (h : minI ns = some m) : m ∈ ns ∧ ∀ y ∈ ns, m ≤ y := by
  cases ns with
  | nil => cases h
  | cons x r =>
    obtain ⟨h1, h2, h3⟩ := minF (x := x) (r := r) (Option.some.inj h).symm
    refine ⟨?_, fun y hy => ?_⟩
    · rcases h1 with h1 | h1
      · rw [h1]; exact List.mem_cons_self
      · exact List.mem_cons_of_mem _ h1
    · rcases List.mem_cons.mp hy with rfl | hy
      · exact h2
      · exact h3 y hy
theorem max_ok (hc : X.calm = true) : BfOk X C (.builtin "max") maxD := by
  refine ⟨_, (call_max2 hc).or (cr_max hc), fun ω st σ H ds vs Q z r q => ?_⟩
  obtain ⟨d, e, p⟩ := q.lift
  clear q
  unfold maxD at e
  split at e
  · obtain ⟨v, u, rfl, w, w'⟩ := vws2 r
    simp only [Option.some.injEq] at e; subst e
    rw [w.int, w'.int]
    exact .inl ⟨_, _, rfl, p.here z _ (.int _)⟩
  · rename_i xs
    obtain ⟨v, rfl, w⟩ := vws1 r
    obtain ⟨a, vs, rfl, h1, h2⟩ := w.lst
    cases e1 : intsD xs with
    | none => rw [e1] at e; cases e
    | some ns =>
      rw [e1] at e
      cases e2 : maxI ns with
      | none => rw [Option.bind_some, e2] at e; cases e
      | some m =>
        rw [Option.bind_some, e2] at e
        simp only [Option.map_some, Option.some.injEq] at e; subst e
        obtain ⟨m1, m2⟩ := maxI_ok e2
        refine .inr ⟨a, ns, rfl, by rw [← intsD_rel e1 h2]; exact h1, List.length_pos_of_mem m1, fun k k1 k2 => ?_⟩
        have e3 : k = m := Int.le_antisymm (m2 k k1) (k2 m m1)
        subst e3
        exact p.here z _ (.int _)
  · cases e
theorem min_ok (hc : X.calm = true) : BfOk X C (.builtin "min") minD := by
  refine ⟨_, (call_min2 hc).or (cr_min hc), fun ω st σ H ds vs Q z r q => ?_⟩
  obtain ⟨d, e, p⟩ := q.lift
  clear q
  unfold minD at e
  split at e
  · obtain ⟨v, u, rfl, w, w'⟩ := vws2 r
    simp only [Option.some.injEq] at e; subst e
    rw [w.int, w'.int]
    exact .inl ⟨_, _, rfl, p.here z _ (.int _)⟩
  · rename_i xs
    obtain ⟨v, rfl, w⟩ := vws1 r
    obtain ⟨a, vs, rfl, h1, h2⟩ := w.lst
    cases e1 : intsD xs with
    | none => rw [e1] at e; cases e
    | some ns =>
      rw [e1] at e
      cases e2 : minI ns with
      | none => rw [Option.bind_some, e2] at e; cases e
      | some m =>
        rw [Option.bind_some, e2] at e
        simp only [Option.map_some, Option.some.injEq] at e; subst e
        obtain ⟨m1, m2⟩ := minI_ok e2
        refine .inr ⟨a, ns, rfl, by rw [← intsD_rel e1 h2]; exact h1, List.length_pos_of_mem m1, fun k k1 k2 => ?_⟩
        have e3 : k = m := Int.le_antisymm (k2 m m1) (m2 k k1)
        subst e3
        exact p.here z _ (.int _)
  · cases e
/-- sum of a tuple of ints -/
theorem sum_rawT {prog : Program} {w : World} {A : Around} {E : Value → Shared → Prop} {s : Shared} {l : Addr} {its : List Value} {ns : List Int} {Q : Value → Shared → Prop} (hh : A.handled = none) (hl : s.heap.IsTuple l its.toArray) (hi : IntsAre its ns)
    (h : ∀ h' tk t', (∀ b o, s.heap.get? b = some o → h'.get? b = some o) → Q (.int ns.sum t') { s with heap := h', toks := tk }) : wpAny (model prog w) A (call (.builtin "sum") [.ref l]) Q E s := by
  obtain ⟨xs, e⟩ := hi.allInts.items
  have hn : numsOf (intItems xs).toList = ns := by rw [← e]; exact hi.numsOf
  rw [nums_intItems] at hn
  rw [e] at hl
  have hlt : l < s.heap.objs.size := by obtain ⟨_, e, _⟩ := hl; exact Heap.lt_size e
  have hl2 := hl
  obtain ⟨o, ho, hoc, n, hod⟩ := hl2
  refine call_sum_walkG (wpAny_pyIter_tuple hl ?_)
  refine ⟨_, _, _, _, _, _, numAt xs, rfl, Walks.tuple (A := A.in1) hh _ l (Nat.ne_of_lt hlt) (intItems xs), ⟨⟨_, Heap.get?_push_size _ rfl, rfl, rfl⟩, ⟨o, Heap.get?_push_of_some _ ho, hoc, n, hod⟩⟩, fun b hb => ?_, (fun _ _ => intItems_at), fun h' tk t' hk => ?_⟩
  · rcases List.mem_cons.mp hb with rfl | hb
    · rw [Heap.size_push]; exact Nat.lt_succ_self _
    · rw [List.mem_singleton] at hb; subst hb
      rw [Heap.size_push]; exact Nat.lt_succ_of_lt hlt
  · have hk' : ∀ b o, s.heap.get? b = some o → h'.get? b = some o := fun b o q => hk b o (fun z => by
      rw [List.mem_singleton] at z
      subst z
      exact absurd (Heap.lt_size q) (Nat.lt_irrefl _)) (Heap.get?_push_of_some _ q)
    have := h h' tk t' hk'
    rw [preSum_eq, List.take_of_length_le (by simp [intItems]), hn]
    exact this
def rSumT (K : PySem.W.Frag) : List V → Hp → VK → Prop := fun vs H Q => ∃ (a : Addr) (ns : List Int), vs = [V.ref a] ∧ SqT K H a (ns.map V.int) ∧ Q (.int ns.sum) H
theorem cr_sumT (hc : X.calm = true) : CallR X (.builtin "sum") (rSumT X.K) := by
  intro pins s σ H vs us Q I r h
  obtain ⟨a, ns, rfl, hs, q⟩ := h
  obtain ⟨its, rv, hl, _⟩ := I.tuple hs
  rw [Vals.ref1 r]
  exact sum_rawT (I.ok.hd hc) hl rv.ints fun h' tk t' hk => ⟨.int _, H, I.kept hk, ⟨_, rfl⟩, q⟩
theorem sum_ok (hc : X.calm = true) : BfOk X C (.builtin "sum") sumD := by
  refine ⟨_, (cr_sum hc).or (cr_sumT hc), fun ω st σ H ds vs Q z r q => ?_⟩
  obtain ⟨d, e, p⟩ := q.lift
  clear q
  unfold sumD at e
  split at e
  · rename_i xs
    obtain ⟨v, rfl, w⟩ := vws1 r
    obtain ⟨a, vs, rfl, h1, h2⟩ := w.lst
    cases e1 : intsD xs with
    | none => rw [e1] at e; cases e
    | some ns =>
      rw [e1] at e
      simp only [Option.map_some, Option.some.injEq] at e; subst e
      exact .inl ⟨a, ns, rfl, by rw [← intsD_rel e1 h2]; exact h1, p.here z _ (.int _)⟩
  · rename_i xs
    obtain ⟨v, rfl, w⟩ := vws1 r
    obtain ⟨a, vs, rfl, h1, h2⟩ := w.tup
    cases e1 : intsD xs with
    | none => rw [e1] at e; cases e
    | some ns =>
      rw [e1] at e
      simp only [Option.map_some, Option.some.injEq] at e; subst e
      exact .inr ⟨a, ns, rfl, by rw [← intsD_rel e1 h2]; exact h1.sq, p.here z _ (.int _)⟩
  · cases e
theorem abs_ok : BfOk X C (.builtin "abs") absD := by
  refine ⟨_, call_abs, fun ω st σ H ds vs Q z r q => ?_⟩
  obtain ⟨d, e, p⟩ := q.lift
  clear q
  unfold absD at e
  split at e
  · obtain ⟨v, rfl, w⟩ := vws1 r
    simp only [Option.some.injEq] at e; subst e
    rw [w.int]
    exact ⟨_, rfl, p.here z _ (.int _)⟩
  · cases e
theorem int_ok : BfOk X C (.type "int") intD := by
  refine ⟨_, call_int1, fun ω st σ H ds vs Q z r q => ?_⟩
  obtain ⟨d, e, p⟩ := q.lift
  clear q
  unfold intD at e
  split at e
  · obtain ⟨v, rfl, w⟩ := vws1 r
    simp only [Option.some.injEq] at e; subst e
    rw [w.int]
    exact .inl ⟨_, rfl, p.here z _ (.int _)⟩
  · obtain ⟨v, rfl, w⟩ := vws1 r
    simp only [Option.some.injEq] at e; subst e
    rw [w.bl]
    exact .inr ⟨_, rfl, p.here z _ (.int _)⟩
  · cases e
theorem all_ok (hc : X.calm = true) : BfOk X C (.builtin "all") allD := by
  refine ⟨_, cr_all hc, fun ω st σ H ds vs Q z r q => ?_⟩
  obtain ⟨d, e, p⟩ := q.lift
  clear q
  unfold allD at e
  split at e
  · rename_i xs
    obtain ⟨v, rfl, w⟩ := vws1 r
    obtain ⟨a, vs, rfl, h1, h2⟩ := w.lst
    cases e1 : bolsD xs with
    | none => rw [e1] at e; cases e
    | some ns =>
      rw [e1] at e
      simp only [Option.map_some, Option.some.injEq] at e; subst e
      exact ⟨a, ns, rfl, by rw [← bolsD_rel e1 h2]; exact h1, p.here z _ (.bl _)⟩
  · cases e
theorem any_ok (hc : X.calm = true) : BfOk X C (.builtin "any") anyD := by
  refine ⟨_, cr_any hc, fun ω st σ H ds vs Q z r q => ?_⟩
  obtain ⟨d, e, p⟩ := q.lift
  clear q
  unfold anyD at e
  split at e
  · rename_i xs
    obtain ⟨v, rfl, w⟩ := vws1 r
    obtain ⟨a, vs, rfl, h1, h2⟩ := w.lst
    cases e1 : bolsD xs with
    | none => rw [e1] at e; cases e
    | some ns =>
      rw [e1] at e
      simp only [Option.map_some, Option.some.injEq] at e; subst e
      exact ⟨a, ns, rfl, by rw [← bolsD_rel e1 h2]; exact h1, p.here z _ (.bl _)⟩
  · cases e

variable {P : Pt} {G : Fns} {e : Expr} {ie : Ex} {pos p p2 : Pos} {es : List Expr} {is : List Ex} {x : Str}
theorem ok_bfB {b : Bf} {id : String} (R : BfOk X C (.builtin id) (bfD b)) (hg : Gl X x) (hm : X.mg x = none) (hv : bootBuiltins x = some (.builtin id)) (hn : x ≠ "__name__") (hdb : (x == ("__debug__" : Str)) = false)
    (hs : (e :: es).all (fun e => !isStar e) = true) (ha : OkB X C P G is (e :: es)) : OkE X C P G (.bf b is) (.Call (.Name x p) (e :: es) [] pos) := by
  obtain ⟨r, hr, hk⟩ := R
  rw [List.all_cons, Bool.and_eq_true] at hs
  refine pe_weak (pe_callB hr hg hm hv ha hn hdb (star_cons (by simpa using hs.1)) (back_plain hs.2)) fun σ H Q ⟨ω, env, st, S, q⟩ => ?_
  unfold ev at q
  refine tAw.step S q fun xs s1 ω1 H1 vs e1 S1 r1 q1 => ?_
  exact hk ω1 s1 σ H1 _ vs Q S1.st (r1.der S1.st) q1
theorem ok_bfT {b : Bf} {id : String} (R : BfOk X C (.type id) (bfD b)) (hg : Gl X x) (hm : X.mg x = none) (hv : bootBuiltins x = some (.type id)) (hn : x ≠ "__name__") (hdb : (x == ("__debug__" : Str)) = false)
    (hs : (e :: es).all (fun e => !isStar e) = true) (ha : OkB X C P G is (e :: es)) : OkE X C P G (.bf b is) (.Call (.Name x p) (e :: es) [] pos) := by
  obtain ⟨r, hr, hk⟩ := R
  rw [List.all_cons, Bool.and_eq_true] at hs
  refine pe_weak (pe_callTy hr hg hm hv ha hn hdb (star_cons (by simpa using hs.1)) (back_plain hs.2)) fun σ H Q ⟨ω, env, st, S, q⟩ => ?_
  unfold ev at q
  refine tAw.step S q fun xs s1 ω1 H1 vs e1 S1 r1 q1 => ?_
  exact hk ω1 s1 σ H1 _ vs Q S1.st (r1.der S1.st) q1

/-! ### isinstance -/
def tyN : Ty → String
  | .int => "int" | .bool => "bool" | .str => "str" | .list => "list" | .tuple => "tuple"
/-- the name of a value's type -/
def tyD : D → Option String
  | .non => some "NoneType"
  | .bl _ => some "bool"
  | .int _ => some "int"
  | .str _ => some "str"
  | .tup _ => some "tuple"
  | .lst _ => some "list"
  | _ => none
theorem tyx_tup {K : PySem.W.Frag} {H : Hp} {a : Addr} {vs : List V} (h : SqT K H a vs) : TyX K H (.ref a) (.type "tuple") := by
  rcases h with (h | ⟨o, h⟩) | ⟨o, its, n, h, c, _⟩
  · exact .base (.tup h)
  · exact .fTuple h
  · exact .kTuple h c
theorem tyx_lst {K : PySem.W.Frag} {H : Hp} {a : Addr} {vs : List V} (h : SqL K H a vs) : TyX K H (.ref a) (.type "list") := by
  rcases h with (h | ⟨o, h⟩) | ⟨o, its, n, h, c, _⟩
  · exact .base (.lst h)
  · exact .base (.frz h)
  · exact .kList h c
theorem tyx_of {B : Base} {ω : Wd} {H : Hp} {d : D} {v : V} {t : String} (r : Vw B ω H d v) (h : tyD d = some t) : TyX B.K H v (.type t) := by
  cases d with
  | non => rw [r.non]; cases h; exact .base .non
  | bl b => rw [r.bl]; cases h; exact .base (.bl b)
  | int b => rw [r.int]; cases h; exact .base (.int b)
  | str b => rw [r.str]; cases h; exact .base (.str b)
  | tup xs => obtain ⟨a, vs, rfl, h1, h2⟩ := r.tup; cases h; exact tyx_tup h1.sq
  | lst xs => obtain ⟨a, vs, rfl, h1, h2⟩ := r.lst; cases h; exact tyx_lst h1
  | _ => cases h
theorem kit_tab (ty : Ty) : kitB "NoneType" (tyN ty) = some (isT1 ty .non) ∧ kitB "bool" (tyN ty) = some (isT1 ty (.bl true)) ∧ kitB "int" (tyN ty) = some (isT1 ty (.int 0)) ∧
    kitB "str" (tyN ty) = some (isT1 ty (.str Str.empty)) ∧ kitB "tuple" (tyN ty) = some (isT1 ty (.tup [])) ∧ kitB "list" (tyN ty) = some (isT1 ty (.lst [])) := by
  cases ty <;> exact ⟨by decide +kernel, by decide +kernel, by decide +kernel, by decide +kernel, by decide +kernel, by decide +kernel⟩
theorem kit_isT {K : PySem.W.Frag} {d : D} {t : String} (ty : Ty) (h : tyD d = some t) : PySem.W.kitOne K (.type t) (.type (tyN ty)) = some (isT1 ty d) := by
  obtain ⟨h1, h2, h3, h4, h5, h6⟩ := kit_tab ty
  cases d with
  | obj _ _ => cases h
  | fn _ => cases h
  | loc _ => cases h
  | non => cases h; exact kit_ty h1
  | bl b => cases h; rw [show isT1 ty (.bl b) = isT1 ty (.bl true) by cases ty <;> rfl]; exact kit_ty h2
  | int b => cases h; rw [show isT1 ty (.int b) = isT1 ty (.int 0) by cases ty <;> rfl]; exact kit_ty h3
  | str b => cases h; rw [show isT1 ty (.str b) = isT1 ty (.str Str.empty) by cases ty <;> rfl]; exact kit_ty h4
  | tup b => cases h; rw [show isT1 ty (.tup b) = isT1 ty (.tup []) by cases ty <;> rfl]; exact kit_ty h5
  | lst b => cases h; rw [show isT1 ty (.lst b) = isT1 ty (.lst []) by cases ty <;> rfl]; exact kit_ty h6
theorem kit_any {K : PySem.W.Frag} {d : D} {t : String} (h : tyD d = some t) : ∀ ts : List Ty, PySem.W.kitAny K (.type t) (ts.map fun y => .type (tyN y)) = some (ts.any (isT1 · d))
  | [] => rfl
  | y :: ts => by
    rw [List.map_cons, List.any_cons]
    refine kitAny_cons (kit_isT y h) (fun e => ?_) (fun e => ?_)
    · rw [e, Bool.false_or]; exact kit_any h ts
    · rw [e, Bool.true_or]
theorem isi_post {B : Base} {W : WX} {ω : Wd} {H : Hp} {σ : St} {st : Store} {x : D} {ts : List Ty} {k : D → Store → Wd → Hp → Prop} (q : Post B W ω H σ (match der st x with
    | .fn _ => .stuck
    | .loc _ => .stuck
    | .obj _ _ => .stuck
    | d => R.ok (.bl (ts.any (isT1 · d))) st) k) : ∃ t, tyD (der st x) = some t ∧ Post B W ω H σ (R.ok (.bl (ts.any (isT1 · (der st x)))) st) k := by
  generalize der st x = d at q ⊢
  cases d with
  | obj _ _ => exact q.elim
  | fn _ => exact q.elim
  | loc _ => exact q.elim
  | _ => exact ⟨_, rfl, q⟩
theorem ok_isi1 {ty : Ty} (hg : Gl X "isinstance") (hm : X.mg "isinstance" = none) (h : OkW X C P G ie e) (ht : PE X (.Name x p2) (tC (.ty (tyN ty)))) (hs : isStar e = false) :
    OkE X C P G (.isi ie [ty]) (.Call (.Name "isinstance" p) [e, .Name x p2] [] pos) := by
  refine pe_weak (pe_callB call_isi hg hm PyProof.Rows.boot_isinstance (pa_cons h (pa_cons ht pa_nil rfl) (star_cons hs)) (by decide) (by decide) (star_cons hs) rfl) fun σ H Q ⟨ω, env, st, S, q⟩ => ?_
  unfold ev at q
  refine tW.step S q fun d s1 ω1 H1 v e1 S1 r1 q1 => ?_
  obtain ⟨t, e2, q1⟩ := isi_post q1
  have k := kit_isT (K := X.K) ty e2
  have q3 := q1.here S1.st _ (.bl _)
  simp only [List.any_cons, List.any_nil, Bool.or_false] at q3
  exact ⟨v, _, _, _, _, rfl, .ty _, tyx_of (der_vw r1 S1.st) e2, k, q3⟩
/-- names of types -/
def tTys (ts : List Ty) : TA := fun _ H Q => Q (ts.map fun y => .ty (tyN y)) H
theorem pa_ty {ty : Ty} {ts : List Ty} (h : PE X e (tC (.ty (tyN ty)))) (hs : PA X es (tTys ts)) (hst : isStar e = false) : PA X (e :: es) (tTys (ty :: ts)) := pa_cons h hs (star_cons hst)
theorem pairedTy : ∀ ts : List Ty, Paired ClsV (ts.map fun y => .ty (tyN y)) (ts.map fun y => Value.type (tyN y))
  | [] => .nil
  | y :: ts => .cons (.ty _) (pairedTy ts)
theorem ok_isiT {ts : List Ty} {k : Nat} (hg : Gl X "isinstance") (hm : X.mg "isinstance" = none) (h : OkW X C P G ie e) (ht : PA X es (tTys ts)) (hs : isStar e = false) (hl : fits ts.length = true) :
    OkE X C P G (.isi ie ts) (.Call (.Name "isinstance" p) [e, .Tuple es k p2] [] pos) := by
  refine pe_weak (pe_callB call_isiT hg hm PyProof.Rows.boot_isinstance (pa_cons h (pa_cons (pe_tup ht) pa_nil rfl) (star_cons hs)) (by decide) (by decide) (star_cons hs) rfl) fun σ H Q ⟨ω, env, st, S, q⟩ => ?_
  unfold ev at q
  refine tW.step S q fun d s1 ω1 H1 v e1 S1 r1 q1 => ?_
  refine ⟨by rw [List.length_map]; exact fits_le hl, fun tp htp => ?_⟩
  obtain ⟨t, e2, q1⟩ := isi_post q1
  have r2 := (r1.ext S1.st (Ext.new (o := HO.tup (ts.map fun y => V.ty (tyN y))) htp))
  have r3 := der_vw r2 (S1.st.new htp)
  exact ⟨v, tp, _, _, _, _, rfl, upd_same, pairedTy ts, tyx_of r3 e2, kit_any e2 ts, q1.new S1.st htp _ (.bl _)⟩
end
end Iv

set_option Elab.async false
set_option linter.all false
set_option maxRecDepth 100000
set_option maxHeartbeats 4000000
/-! IvH: what is walked; comprehensions; targets. -/
namespace Iv
open PySem PySem.Spec L2
open PyProof.Rows hiding St

theorem pi_weak {X : Cx} {tg e : Expr} {t t' : TI} (h : PI X tg e t) (w : ∀ σ H R, t' σ H R → t σ H R) : PI X tg e t' := ⟨fun pins s σ H R I q => h.run pins s σ H R I (w _ _ _ q)⟩
theorem pi_orr {X : Cx} {tg e : Expr} {t t' : TI} (h : PI X tg e t) (h' : PI X tg e t') : PI X tg e (fun σ H R => t σ H R ∨ t' σ H R) := ⟨fun pins s σ H R I q => q.elim (h.run pins s σ H R I) (h'.run pins s σ H R I)⟩

/-- frozen things stay; with b also the frame's own -/
def KeepO (b : Bool) (ω0 : Wd) (H0 : Hp) (ω : Wd) (H : Hp) : Prop := Keep ω0 H0 ω H ∧ (b = true → ∀ a o, H0 a = some o → ω0.O a → H a = some o)
structure ItOk (B : Base) (b : Bool) (ω0 : Wd) (H0 : Hp) (J : It) (xs : List D) : Prop where
  go : ∀ ω H, KeepO b ω0 H0 ω H → ∀ i, i < xs.length → J.go i H
  stop : ∀ ω H, KeepO b ω0 H0 ω H → J.stop xs.length H
  yld : ∀ ω st H, KeepO b ω0 H0 ω H → SimSt B ω st H → ∀ i x H', i < xs.length → J.yld i H x H' → ∃ d, xs[i]? = some d ∧ Ext ω H ω H' ∧ SimSt B ω st H' ∧ RelD B ω H' d x
def tIt (B : Base) (C : Cf) (b : Bool) (f : Ev D) : TI := fun σ H Rr => ∃ ω env st, Sim B C ω env st σ H ∧ Post B C.W ω H σ (f env st) fun d _ ω' H' => ∃ xs, itemsD d = some xs ∧ ∀ J, ItOk B b ω' H' J xs → Rr J H'

section
variable {B : Base} {ω ω' : Wd} {H H' : Hp} {st : Store}
/-- a list that is looked at, its place sure to stay -/
theorem it_list {b : Bool} {a : Addr} {vs : List V} {xs : List D} (sq : ∀ ω' H', KeepO b ω H ω' H' → SqL B.K H' a vs) (r : RelDs B ω H xs vs) : ItOk B b ω H (Itl B.K a) xs := by
  refine ⟨fun ω' H' k i hi => ?_, fun ω' H' k => ⟨vs, sq ω' H' k, by rw [r.length]; exact Nat.le_refl _⟩, fun ω' st H' k z i x H2 hi y => ?_⟩
  · rw [r.length] at hi
    exact ⟨vs, vs[i], sq ω' H' k, by simp [hi]⟩
  · obtain ⟨rfl, y⟩ := y
    obtain ⟨d, h1, h2⟩ := r.get' (y vs (sq ω' H2 k))
    exact ⟨d, h1, .refl, z, h2.keep k.1⟩
theorem it_tup {b : Bool} {a : Addr} {vs : List V} {xs : List D} (h : TupAt B ω H a vs) (r : RelDs B ω H xs vs) : ItOk B b ω H (Itt B.K a) xs := by
  refine ⟨fun ω' H' k i hi => ?_, fun ω' H' k => ⟨vs, (h.keep k.1).sq, by rw [r.length]; exact Nat.le_refl _⟩, fun ω' st H' k z i x H2 hi y => ?_⟩
  · rw [r.length] at hi
    exact ⟨vs, vs[i], (h.keep k.1).sq, by simp [hi]⟩
  · obtain ⟨rfl, y⟩ := y
    obtain ⟨d, h1, h2⟩ := r.get' (y vs (h.keep k.1).sq)
    exact ⟨d, h1, .refl, z, h2.keep k.1⟩
theorem it_str {b : Bool} {z : Str} : ItOk B b ω H (Its z) (z.cps.toList.map fun c => .str ⟨#[c]⟩) := by
  have hl : (z.cps.toList.map fun c => D.str ⟨#[c]⟩).length = z.cps.size := by simp
  refine ⟨fun ω' H' k i hi => walk_str.goes i H' (by rw [← hl]; exact hi) trivial, fun ω' H' k => by rw [hl]; exact walk_str.stops H' trivial, fun ω' st H' k s i x H2 hi y => ?_⟩
  obtain ⟨rfl, c, h1, rfl⟩ := walk_str.yields i H' x H2 (by rw [← hl]; exact hi) trivial y
  refine ⟨.str ⟨#[c]⟩, ?_, .refl, s, .str _⟩
  rw [List.getElem?_map, Array.getElem?_toList, h1]
  rfl
theorem it_rng {b : Bool} {lo : Int} {n : Nat} : ItOk B b ω H (Itr lo n) ((List.range n).map fun (k : Nat) => .int (lo + k)) := by
  have hl : ((List.range n).map fun (k : Nat) => D.int (lo + k)).length = n := by simp
  refine ⟨fun ω' H' k i hi => walk_range.goes i H' (by rw [← hl]; exact hi) trivial, fun ω' H' k => by rw [hl]; exact walk_range.stops H' trivial, fun ω' st H' k s i x H2 hi y => ?_⟩
  obtain ⟨rfl, rfl⟩ := walk_range.yields i H' x H2 (by rw [← hl]; exact hi) trivial y
  rw [hl] at hi
  refine ⟨.int (lo + (i : Nat)), ?_, .refl, s, .int _⟩
  rw [List.getElem?_map, List.getElem?_range hi]
  rfl
end

section
variable {X : Cx} {C : Cf} {P : Pt} {G : Fns} {a b e tg : Expr} {ia ib ie : Ex} {pos p : Pos}
abbrev OkI (X : Cx) (C : Cf) (P : Pt) (G : Fns) (tg : Expr) (i : Ex) (e : Expr) : Prop := PI X tg e (tIt (bs X C) C true fun env st => brw env i st (ev P G C.xh i env st))
abbrev OkIs (X : Cx) (C : Cf) (P : Pt) (G : Fns) (tg : Expr) (i : Ex) (e : Expr) : Prop := PI X tg e (tIt (bs X C) C false (ev P G C.xh i))
theorem seq_go {bb : Bool} {f : Ev D} {σ : St} {H : Hp} {Rr : It → Hp → Prop} (te : TE) (ht : ∀ Q : VK, (∃ ω env st, Sim (bs X C) C ω env st σ H ∧ Post (bs X C) C.W ω H σ (f env st) fun d _ ω' H' => ∀ v, (bb = true ∧ Bw (bs X C) ω' H' d v ∨ RelD (bs X C) ω' H' d v) → Q v H') → te σ H Q)
    (q : tIt (bs X C) C bb f σ H Rr) : iList X.K te σ H Rr ∨ iTup X.K te σ H Rr ∨ iStr te σ H Rr := by
  obtain ⟨ω, env, st, S, q⟩ := q
  cases e : f env st with
  | stuck => rw [e] at q; exact q.elim
  | exc c fs s => exact .inl (ht _ ⟨ω, env, st, S, by rw [e] at q ⊢; exact q⟩)
  | ok d s =>
    rw [e] at q
    cases d with
    | lst xs =>
      refine .inl (ht _ ⟨ω, env, st, S, ?_⟩)
      rw [e]
      intro ω' H' x z v r
      obtain ⟨ys, h1, k⟩ := q ω' H' x z
      cases h1
      have fin : RelD (bs X C) ω' H' (.lst xs) v → ∃ a, v = .ref a ∧ (∃ xs, SqL X.K H' a xs) ∧ Rr (Itl X.K a) H' := fun r => by
        cases r with
        | lst h1 h2 => exact ⟨_, rfl, ⟨_, h1.sq⟩, k _ (it_list (B := bs X C) (fun ω2 H2 k => (h1.keep k.1).sq) h2)⟩
      rcases r with ⟨hb, r⟩ | r
      · rcases r with r | ⟨c, a, h1, rfl, h3, h4⟩
        · exact fin r
        · cases c with
          | ins c fs => cases h1
          | lst zs =>
            cases h1
            obtain ⟨vs, q1, q2⟩ := h3
            exact ⟨a, rfl, ⟨vs, .of q1⟩, k _ (it_list (B := bs X C) (fun ω2 H2 k => .of (k.2 hb a _ q1 h4)) q2)⟩
      · exact fin r
    | tup xs =>
      refine .inr (.inl (ht _ ⟨ω, env, st, S, ?_⟩))
      rw [e]
      intro ω' H' x z v r
      obtain ⟨ys, h1, k⟩ := q ω' H' x z
      cases h1
      have r' : RelD (bs X C) ω' H' (.tup xs) v := by
        rcases r with ⟨hb, r | ⟨c, a, h1, _⟩⟩ | r
        · exact r
        · cases c <;> cases h1
        · exact r
      cases r' with
      | tup h1 h2 => exact ⟨_, rfl, ⟨_, h1.sq⟩, k _ (it_tup h1 h2)⟩
    | str x =>
      refine .inr (.inr (ht _ ⟨ω, env, st, S, ?_⟩))
      rw [e]
      intro ω' H' x' z v r
      obtain ⟨ys, h1, k⟩ := q ω' H' x' z
      cases h1
      have r' : RelD (bs X C) ω' H' (.str x) v := by
        rcases r with ⟨hb, r | ⟨c, a, h1, _⟩⟩ | r
        · exact r
        · cases c <;> cases h1
        · exact r
      cases r'
      exact ⟨_, rfl, k _ it_str⟩
    | _ =>
      refine .inl (ht _ ⟨ω, env, st, S, ?_⟩)
      rw [e]
      intro ω' H' x z v r
      obtain ⟨ys, h1, k⟩ := q ω' H' x z
      cases h1
theorem oki_seq (h : OkW X C P G ie e) : OkI X C P G tg ie e := by
  refine pi_weak (pi_orr (pi_list h) (pi_orr (pi_tup h) (pi_str h))) fun σ H Rr q => seq_go (bb := true) _ (fun Q ⟨ω, env, st, S, q⟩ => ⟨ω, env, st, S, q.imp fun d s ω' H' _ _ k v r => k v (.inl ⟨rfl, r⟩)⟩) q
theorem okis_seq (h : OkE X C P G ie e) : OkIs X C P G tg ie e := by
  refine pi_weak (pi_orr (pi_list h) (pi_orr (pi_tup h) (pi_str h))) fun σ H Rr q => seq_go (bb := false) _ (fun Q ⟨ω, env, st, S, q⟩ => ⟨ω, env, st, S, q.imp fun d s ω' H' _ _ k v r => k v (.inr r)⟩) q
theorem rng_go {bb : Bool} {σ : St} {H : Hp} {Rr : It → Hp → Prop} (q : tIt (bs X C) C bb (ev P G C.xh (.rng ia ib)) σ H Rr) :
    tI (bs X C) C (ev P G C.xh ia) σ H fun x H1 => tI (bs X C) C (ev P G C.xh ib) σ H1 fun y H2 => ∃ i j : Int, x = .int i ∧ y = .int j ∧ (-(2 ^ 62) ≤ i ∧ i < 2 ^ 62 ∧ -(2 ^ 62) ≤ j ∧ j < 2 ^ 62) ∧ Rr (Itr i (j - i).toNat) H2 := by
  obtain ⟨ω, env, st, S, q⟩ := q
  unfold ev at q
  refine tI.step S q fun x s1 ω1 H1 vx e1 S1 r1 q1 => ?_
  refine tI.step S1 q1 fun y s2 ω2 H2 vy e2 S2 r2 q2 => ?_
  cases x with
  | int i =>
    cases y with
    | int j =>
      cases r1; cases r2
      obtain ⟨d, e, p⟩ := q2.lift
      unfold rngD at e
      split at e
      · rename_i hb
        simp only [Bool.and_eq_true, decide_eq_true_eq] at hb
        simp only [Option.some.injEq] at e; subst e
        obtain ⟨ys, h1, k⟩ := p.here S2.st
        cases h1
        exact ⟨i, j, rfl, rfl, ⟨hb.1.1.1, hb.1.1.2, hb.1.2, hb.2⟩, k _ it_rng⟩
      · cases e
    | _ => exact q2.elim
  | _ => exact q2.elim
theorem brw_rng {env : List Sl} {st : Store} {r : R D} : brw env (.rng ia ib) st r = r := rfl
theorem oki_rng2 {bb : Bool} (hg : Gl X "range") (hm : X.mg "range" = none) (ha : OkE X C P G ia a) (hb : OkE X C P G ib b) (h1 : isStar a = false) (h2 : isStar b = false) : PI X tg (.Call (.Name "range" p) [a, b] [] pos) (tIt (bs X C) C bb (ev P G C.xh (.rng ia ib))) := by
  have s2 : starEach [b] X.env = [(false, eval b X.env)] := star_cons h2
  refine pi_weak (pi_range2 hg hm (pa_cons ha (pa_cons hb pa_nil s2) (star_cons h1)) (by rw [star_cons h1, s2]) s2) fun σ H Rr q => ?_
  refine (fun z => ?_) (rng_go q)
  obtain ⟨ω, env, st, S, z⟩ := z
  refine ⟨ω, env, st, S, z.imp fun d s ω' H' _ _ k v r => ?_⟩
  obtain ⟨ω2, env2, st2, S2, z2⟩ := k v r
  refine ⟨ω2, env2, st2, S2, z2.imp fun d s ω' H' _ _ k v r => ?_⟩
  obtain ⟨i, j, rfl, rfl, h, q⟩ := k v r
  exact ⟨i, j, rfl, h, q⟩
theorem oki_rng1 {bb : Bool} (hg : Gl X "range") (hm : X.mg "range" = none) (hb : OkE X C P G ib b) (h2 : isStar b = false) : PI X tg (.Call (.Name "range" p) [b] [] pos) (tIt (bs X C) C bb (ev P G C.xh (.rng (.lit (.int 0)) ib))) := by
  have s2 : starEach [b] X.env = [(false, eval b X.env)] := star_cons h2
  refine pi_weak (pi_range1 hg hm (pa_cons hb pa_nil s2) s2) fun σ H Rr q => ?_
  have q' := rng_go q
  obtain ⟨ω, env, st, S, z⟩ := q'
  unfold ev at z
  obtain ⟨ω2, env2, st2, S2, z2⟩ := z.here S.st _ (.int 0)
  refine ⟨ω2, env2, st2, S2, z2.imp fun d s ω' H' _ _ k v r => ?_⟩
  obtain ⟨i, j, e, rfl, h, q⟩ := k v r
  cases e
  exact ⟨j, rfl, h.2.2.1, h.2.2.2, by rw [Int.sub_zero] at q; exact q⟩
end

/-! ### targets -/
def gNames : List Nat → TGs
  | [] => gNil
  | i :: is => gCons (gName i) (gNames is)
def gT (K : PySem.W.Frag) : Tg → TG
  | .nm i => gName i
  | .tp is => gTup K is.length (gNames is)
def Tg.sl : Tg → List Nat
  | .nm i => [i]
  | .tp is => is
section
variable {B : Base} {ω ω' : Wd} {H H' : Hp} {st : Store} {me : Me} {env env' : List Sl} {σ : St}
theorem SimEnv.set {i : Nat} {d : D} {v : V} (s : SimEnv B ω me env σ H) (r : RelD B ω H d v) : SimEnv B ω me (env.set i (.d d)) (σ.set i (some v)) H := by
  refine ⟨by simpa using s.len, fun j x h => ?_, fun j c h => ?_, fun j k c e a h1 h2 h3 h4 => ?_, fun j h => ?_⟩
  · by_cases hj : i = j
    · subst hj
      have hlt : i < env.length := by
        by_cases hlt : i < env.length
        · exact hlt
        · rw [List.getElem?_eq_none (by simpa using hlt)] at h; cases h
      rw [List.getElem?_set_self hlt] at h
      cases h
      exact ⟨v, by rw [List.getElem?_set_self (by rw [← s.len]; exact hlt)], r⟩
    · rw [List.getElem?_set_ne hj] at h ⊢
      exact s.val j x h
  · by_cases hj : i = j
    · subst hj
      have hlt : i < env.length := by
        by_cases hlt : i < env.length
        · exact hlt
        · rw [List.getElem?_eq_none (by simpa using hlt)] at h; cases h
      rw [List.getElem?_set_self hlt] at h
      cases h
    · rw [List.getElem?_set_ne hj] at h ⊢
      exact s.own j c h
  · have nj : i ≠ j := fun e => by
      subst e
      by_cases hlt : i < env.length
      · rw [List.getElem?_set_self hlt] at h1; cases h1
      · rw [List.getElem?_eq_none (by simpa using hlt)] at h1; cases h1
    have nk : i ≠ k := fun e => by
      subst e
      by_cases hlt : i < env.length
      · rw [List.getElem?_set_self hlt] at h2; cases h2
      · rw [List.getElem?_eq_none (by simpa using hlt)] at h2; cases h2
    rw [List.getElem?_set_ne nj] at h1 h3
    rw [List.getElem?_set_ne nk] at h2 h4
    exact s.ne j k c e a h1 h2 h3 h4
  · have nj : i ≠ j := fun e => by
      subst e
      by_cases hlt : i < env.length
      · rw [List.getElem?_set_self hlt] at h; cases h
      · rw [List.getElem?_eq_none (by simpa using hlt)] at h; cases h
    rw [List.getElem?_set_ne nj] at h ⊢
    exact s.xcp j h
theorem SimEnv.clr {i : Nat} (o : Option V) (s : SimEnv B ω me env σ H) : SimEnv B ω me (env.set i .no) (σ.set i o) H := by
  have no : ∀ {j : Nat} {x : Sl}, (env.set i .no)[j]? = some x → x ≠ .no → i ≠ j := fun {j x} h hx e => by
    subst e
    by_cases hlt : i < env.length
    · rw [List.getElem?_set_self hlt] at h; cases h; exact hx rfl
    · rw [List.getElem?_eq_none (by simpa using hlt)] at h; cases h
  refine ⟨by simpa using s.len, fun j x h => ?_, fun j c h => ?_, fun j k c e a h1 h2 h3 h4 => ?_, fun j h => ?_⟩
  · have n := no h (by intro z; cases z)
    rw [List.getElem?_set_ne n] at h ⊢
    exact s.val j x h
  · have n := no h (by intro z; cases z)
    rw [List.getElem?_set_ne n] at h ⊢
    exact s.own j c h
  · have n := no h1 (by intro z; cases z)
    have n2 := no h2 (by intro z; cases z)
    rw [List.getElem?_set_ne n] at h1 h3
    rw [List.getElem?_set_ne n2] at h2 h4
    exact s.ne j k c e a h1 h2 h3 h4
  · have n := no h (by intro z; cases z)
    rw [List.getElem?_set_ne n] at h ⊢
    exact s.xcp j h
theorem SimEnv.wipe (s : SimEnv B ω me env σ H) : ∀ vs : List Nat, SimEnv B ω me (wipeE env vs) (wipe σ vs) H
  | [] => s
  | v :: vs => (SimEnv.wipe s vs).clr none
theorem SimEnv.keep (s : SimEnv B ω me env σ H) (k : Keep ω H ω' H') (ho : ∀ a o, H a = some o → ω.O a → H' a = some o ∧ ω'.O a) : SimEnv B ω' me env σ H' := by
  refine ⟨s.len, fun i d h => ?_, fun i c h => ?_, s.ne, s.xcp⟩
  · obtain ⟨v, h1, h2⟩ := s.val i d h
    exact ⟨v, h1, h2.keep k⟩
  · obtain ⟨a, h1, h2, h3, h4⟩ := s.own i c h
    obtain ⟨o, h5⟩ := h2.some
    exact ⟨a, h1, h2.keep k fun o q => (ho a o q h3).1, (ho a o h5 h3).2, h4⟩
theorem setSl_ok {i : Nat} {s : Sl} (h : setSl env i s = some env') : env' = env.set i s := by
  unfold setSl at h
  split at h
  · exact (Option.some.inj h).symm
  · cases h
theorem wipe_out1 {σ : St} {i : Nat} {x : Option V} : ∀ {us : List Nat}, i ∉ us → L2.wipe (σ.set i x) us = (L2.wipe σ us).set i x
  | [], _ => rfl
  | u :: us, h => by
    unfold L2.wipe
    rw [wipe_out1 fun z => h (List.mem_cons_of_mem _ z), List.set_comm _ _ (fun z => h (by rw [z]; exact List.mem_cons_self))]
theorem wipe_set {σ : St} {i : Nat} {x : Option V} : ∀ {ws : List Nat}, i ∈ ws → L2.wipe (σ.set i x) ws = L2.wipe σ ws
  | [], h => nomatch h
  | w :: ws, h => by
    unfold L2.wipe
    by_cases hw : i ∈ ws
    · rw [wipe_set hw]
    · have e : i = w := by
        rcases List.mem_cons.mp h with z | z
        · exact z
        · exact absurd z hw
      subst e
      rw [wipe_out1 hw, List.set_set]
theorem wipe_idem (σ : St) : ∀ {vs ws : List Nat}, (∀ i ∈ vs, i ∈ ws) → L2.wipe (L2.wipe σ vs) ws = L2.wipe σ ws
  | [], _, _ => rfl
  | v :: vs, ws, h => by
    show L2.wipe ((L2.wipe σ vs).set v none) ws = _
    rw [wipe_set (h v List.mem_cons_self)]
    exact wipe_idem σ fun i hi => h i (List.mem_cons_of_mem _ hi)
theorem setAll_len : ∀ {is : List Nat} {ds : List D} {env env' : List Sl}, setAll env is ds = some env' → ds.length = is.length
  | [], [], _, _, _ => rfl
  | i :: is, d :: ds, env, env', h => by
    simp only [setAll] at h
    cases e : setSl env i (.d d) with
    | none => rw [e] at h; cases h
    | some env2 =>
      rw [e, Option.bind_some] at h
      rw [List.length_cons, List.length_cons, setAll_len h]
  | [], _ :: _, _, _, h => by simp [setAll] at h
  | _ :: _, [], _, _, h => by simp [setAll] at h
theorem gNames_ok {Q : St → Hp → Prop} : ∀ {is : List Nat} {ds : List D} {vs : List V} {env env' : List Sl} {σ : St}, setAll env is ds = some env' → SimEnv B ω me env σ H → RelDs B ω H ds vs →
    (∀ σ', SimEnv B ω me env' σ' H → (∀ ws : List Nat, (∀ i ∈ is, i ∈ ws) → L2.wipe σ' ws = L2.wipe σ ws) → (∀ (j : Nat) (c : Cell), env'[j]? = some (.ow c) → env[j]? = some (.ow c) ∧ σ'[j]? = σ[j]?) → Q σ' H) → gNames is vs σ H Q
  | [], [], _, env, env', σ, h, s, r, k => by
    cases r
    simp only [setAll, Option.some.injEq] at h; subst h
    exact ⟨rfl, k σ s (fun _ _ => rfl) fun _ _ h => ⟨h, rfl⟩⟩
  | i :: is, d :: ds, _, env, env', σ, h, s, r, k => by
    cases r with
    | cons r t =>
      simp only [setAll] at h
      cases e : setSl env i (.d d) with
      | none => rw [e] at h; cases h
      | some env2 =>
        rw [e, Option.bind_some] at h
        have e2 := setSl_ok e
        subst e2
        refine ⟨_, _, rfl, gNames_ok h (s.set r) t fun σ' s' hw ho => k σ' s' (fun ws hi => ?_) fun j c hj => ?_⟩
        · rw [hw ws fun j hj => hi j (List.mem_cons_of_mem _ hj)]
          exact wipe_set (hi i List.mem_cons_self)
        · obtain ⟨h1, h2⟩ := ho j c hj
          have n : i ≠ j := fun e => by
            subst e
            by_cases hlt : i < env.length
            · rw [List.getElem?_set_self hlt] at h1; cases h1
            · rw [List.getElem?_eq_none (by simpa using hlt)] at h1; cases h1
          rw [List.getElem?_set_ne n] at h1 h2
          exact ⟨h1, h2⟩
  | [], _ :: _, _, _, _, _, h, _, _, _ => by simp [setAll] at h
  | _ :: _, [], _, _, _, _, h, _, _, _ => by simp [setAll] at h
theorem gT_ok {t : Tg} {d : D} {v : V} {Q : St → Hp → Prop} (h : asgT t d env = some env') (s : SimEnv B ω me env σ H) (r : RelD B ω H d v)
    (k : ∀ σ', SimEnv B ω me env' σ' H → (∀ ws : List Nat, (∀ i ∈ t.sl, i ∈ ws) → L2.wipe σ' ws = L2.wipe σ ws) → (∀ (j : Nat) (c : Cell), env'[j]? = some (.ow c) → env[j]? = some (.ow c) ∧ σ'[j]? = σ[j]?) → Q σ' H) : gT B.K t v σ H Q := by
  cases t with
  | nm i =>
    have h' : setAll env [i] [d] = some env' := by
      show (setSl env i (.d d)).bind _ = _
      have h2 : setSl env i (.d d) = some env' := h
      rw [h2]; rfl
    obtain ⟨_, _, e, q⟩ := gNames_ok (vs := [v]) h' s (.cons r .nil) k
    cases e
    exact q.2
  | tp is =>
    cases d with
    | tup ds =>
      cases r with
      | tup h1 h2 =>
        have hl : ds.length = is.length := setAll_len (env := env) (env' := env') h
        exact ⟨_, _, rfl, h1.sq, by rw [← h2.length, hl], gNames_ok h s h2 k⟩
    | _ => cases h
end
end Iv

set_option Elab.async false
set_option linter.all false
set_option maxRecDepth 100000
set_option maxHeartbeats 4000000
/-! IvI: comprehensions. -/
namespace Iv
open PySem PySem.Spec L2
open PyProof.Rows hiding St

section
variable {B : Base} {ω ω' : Wd} {H H' : Hp} {st : Store}
/-- a thing of the frame's own is written -/
theorem Keep.own {a : Addr} {o : HO} (h : ω.O a) : Keep ω H ω (upd H a o) := ⟨fun _ _ h => h, fun b u hb n => ⟨by rw [upd_ne (fun e => n (.inl (by rw [e]; exact h)))]; exact hb, n⟩⟩
theorem SimSt.own {a : Addr} {o : HO} (s : SimSt B ω st H) (h : ω.O a) : SimSt B ω st (upd H a o) := by
  refine ⟨fun l c hl => ?_, s.dom, s.inj, s.noO, fun b hb => ?_⟩
  · obtain ⟨b, h1, h2⟩ := s.cells l c hl
    have nb : b ≠ a := fun e => s.noO l b h1 (by rw [e]; exact h)
    exact ⟨b, h1, h2.keep (Keep.own h) fun u hu => by rw [upd_ne nb]; exact hu⟩
  · by_cases e : b = a
    · subst e; rw [upd_same]; rfl
    · rw [upd_ne e]; exact s.trO b hb
/-- fewer things are held by frames -/
theorem Keep.less {O' : Addr → Prop} (h : ∀ a, O' a → ω.O a) : Keep ω H { ω with O := O' } H := ⟨fun _ _ h => h, fun a o ha n => ⟨ha, fun z => n (z.imp (h a) id)⟩⟩
theorem SimSt.less {O' : Addr → Prop} (s : SimSt B ω st H) (h : ∀ a, O' a → ω.O a) : SimSt B { ω with O := O' } st H :=
  ⟨fun l c hl => let ⟨b, h1, h2⟩ := s.cells l c hl; ⟨b, h1, h2.keep (Keep.less h) fun _ q => q⟩, s.dom, s.inj, fun l a hl z => s.noO l a hl (h a z), fun a ha => s.trO a (h a ha)⟩
/-- one more, new -/
theorem Keep.more {p : Addr} {o : HO} (h : H p = none) : Keep ω H { ω with O := fun a => ω.O a ∨ a = p } (upd H p o) := ⟨fun _ _ h => h, fun a u ha n => by
  have ne : a ≠ p := ne_of_none ha h
  refine ⟨by rw [upd_ne ne]; exact ha, fun z => ?_⟩
  rcases z with (z | z) | z
  · exact n (.inl z)
  · exact ne z
  · exact n (.inr z)⟩
theorem SimSt.more {p : Addr} {o : HO} (s : SimSt B ω st H) (h : H p = none) : SimSt B { ω with O := fun a => ω.O a ∨ a = p } st (upd H p o) := by
  refine ⟨fun l c hl => ?_, s.dom, s.inj, fun l a hl z => ?_, fun a ha => ?_⟩
  · obtain ⟨b, h1, h2⟩ := s.cells l c hl
    obtain ⟨u, hu⟩ := h2.some
    exact ⟨b, h1, h2.keep (Keep.more h) fun u hu => by rw [upd_ne (ne_of_none hu h)]; exact hu⟩
  · rcases z with z | z
    · exact s.noO l a hl z
    · subst z
      obtain ⟨b, h1, h2⟩ := s.cells l (st[l]'(s.dom l _ hl)) (by simp [s.dom l _ hl])
      rw [hl] at h1; cases h1
      obtain ⟨u, hu⟩ := h2.some
      rw [h] at hu; cases hu
  · rcases ha with ha | rfl
    · obtain ⟨u, hu⟩ := Option.isSome_iff_exists.mp (s.trO a ha)
      rw [upd_ne (ne_of_none hu h), hu]; rfl
    · rw [upd_same]; rfl
end

section
variable {X : Cx} {C : Cf} {P : Pt} {G : Fns} {pos p : Pos}
theorem pg_nm {i : Nat} {x : Str} (hN : X.N.Nodup) (hi : X.N[i]? = some x) (hx : Loc X.env.scope x) (hf : X.fn x = true ∨ X.env.scope.names.lookup x = some .local) : PG X (.Name x p) (gT X.K (.nm i)) := pg_name hN hi hx hf
theorem assign_names {es : List Expr} {env : Env} (h : es.all (fun e => !isStar e) = true) : assignEach es env = es.map fun e => (false, assign e env) := by
  induction es with
  | nil => rfl
  | cons a es ih =>
    rw [List.all_cons, Bool.and_eq_true] at h
    have ha : isStar a = false := by simpa using h.1
    have : assignEach (a :: es) env = (false, assign a env) :: assignEach es env := by
      cases a with
      | Starred => cases ha
      | _ => rfl
    rw [this, ih h.2]; rfl
theorem pgs_names (hN : X.N.Nodup) : ∀ {is : List Nat} {es : List Expr}, Paired (fun i e => ∃ x p, e = .Name x p ∧ X.N[i]? = some x ∧ Loc X.env.scope x ∧ (X.fn x = true ∨ X.env.scope.names.lookup x = some .local)) is es → PGs X es (gNames is)
  | _, _, .nil => pgs_nil
  | _, _, .cons ⟨x, p, e, h1, h2, h3⟩ t => by
    subst e
    exact pgs_cons (pg_name hN h1 h2 h3) (pgs_names hN t) rfl
theorem pg_tp {is : List Nat} {es : List Expr} {k : Nat} (hc : X.calm = true) (hN : X.N.Nodup) (h : Paired (fun i e => ∃ x p, e = .Name x p ∧ X.N[i]? = some x ∧ Loc X.env.scope x ∧ (X.fn x = true ∨ X.env.scope.names.lookup x = some .local)) is es) :
    PG X (.Tuple es k pos) (gT X.K (.tp is)) := by
  have hs : es.all (fun e => !isStar e) = true := by
    induction h with
    | nil => rfl
    | cons r _ ih =>
      obtain ⟨x, p, e, _⟩ := r
      subst e
      rw [List.all_cons, ih]; rfl
  refine pg_tup hc (pgs_names hN h) ?_ ?_
  · rw [assign_names hs, List.length_map, h.length]
  · rw [assign_names hs, List.findIdx?_eq_none_iff]
    intro x hx
    obtain ⟨e, _, rfl⟩ := List.mem_map.mp hx
    rfl

/-- a new list, ahead of its being laid -/
def tF (B : Base) (C : Cf) (f : Ev D) : TE := fun σ H Q => ∃ ω env st, Sim B C ω env st σ H ∧ Post B C.W ω H σ (f env st) fun d _ ω' H' => ∃ xs, d = .lst xs ∧ ∀ p vs, H' p = none → RelDs B ω' H' xs vs → Q (.ref p) (upd H' p (.lst vs))
abbrev OkF (X : Cx) (C : Cf) (P : Pt) (G : Fns) (i : Ex) (e : Expr) : Prop := PE X e (tF (bs X C) C (ev P G C.xh i))
theorem okE_of_F {e : Expr} {f : Ev D} {B : Base} (hl : ∀ env st d s, f env st = .ok d s → ∃ xs, d = .lst xs) (h : PE X e (tF B C f)) : PE X e (tI B C f) := pe_weak h fun σ H Q ⟨ω, env, st, S, q⟩ => by
  refine ⟨ω, env, st, S, ?_⟩
  cases e : f env st with
  | stuck => rw [e] at q; exact q
  | exc c fs s => rw [e] at q; exact q
  | ok d s =>
    rw [e] at q
    intro ω' H' x z
    obtain ⟨xs, rfl⟩ := hl _ _ _ _ e
    refine ⟨xs, rfl, fun p vs hp r => q ω' _ (x.trans (.new hp)) (z.new hp) _ (rel_newL z hp r)⟩
theorem fin_lst {P : Pt} {G : Fns} {x : Xh} {is : List Ex} : ∀ env st d s, ev P G x (.lst is) env st = .ok d s → ∃ xs, d = .lst xs := fun env st d s h => by
  unfold ev at h
  cases e : evs P G x is env st with
  | ok ds s1 =>
    rw [e] at h
    dsimp only [R.bind] at h
    split at h
    · injection h with h1 h2; exact ⟨_, h1.symm⟩
    · cases h
  | exc c fs s => rw [e] at h; cases h
  | stuck => rw [e] at h; cases h
theorem okf_lst {is : List Ex} {es : List Expr} (h : OkA X C P G is es) : OkF X C P G (.lst is) (.List es pos) := by
  refine pe_weak (pe_lst h) fun σ H Q ⟨ω, env, st, S, q⟩ => ?_
  unfold ev at q
  refine tA.step S q fun xs s1 ω1 H1 vs e1 S1 r1 q1 => ?_
  split at q1
  · rename_i hf
    obtain ⟨ys, h1, k⟩ := q1.here S1.st
    cases h1
    exact ⟨by rw [← r1.length]; exact fits_le hf, fun p hp => k p vs hp r1⟩
  · exact q1.elim
theorem okf_list {x : Str} {e : Expr} {es : List Expr} {is : List Ex} (hg : Gl X x) (hm : X.mg x = none) (hv : bootBuiltins x = some (.type "list")) (hn : x ≠ "__name__") (hdb : (x == ("__debug__" : Str)) = false)
    (hs : (e :: es).all (fun e => !isStar e) = true) (ha : OkB X C P G is (e :: es)) : OkF X C P G (.bf .list is) (.Call (.Name x p) (e :: es) [] pos) := by
  rw [List.all_cons, Bool.and_eq_true] at hs
  refine pe_weak (pe_callTy call_list_of hg hm hv ha hn hdb (star_cons (by simpa using hs.1)) (back_plain hs.2)) fun σ H Q ⟨ω, env, st, S, q⟩ => ?_
  unfold ev at q
  refine tAw.step S q fun xs s1 ω1 H1 vs e1 S1 r1 q1 => ?_
  have r := r1.der S1.st
  obtain ⟨d, e, pp⟩ := q1.lift
  clear q1
  replace e : listD (xs.map (der s1)) = some d := e
  generalize xs.map (der s1) = ys at e r
  unfold listD at e
  split at e
  · obtain ⟨v, rfl, w⟩ := vws1 r
    obtain ⟨a, vs, rfl, h1, h2⟩ := w.lst
    simp only [Option.some.injEq] at e; subst e
    obtain ⟨_, h3, k⟩ := pp.here S1.st
    cases h3
    exact ⟨a, vs, rfl, .inl h1, fun q hq => k q vs hq h2⟩
  · obtain ⟨v, rfl, w⟩ := vws1 r
    obtain ⟨a, vs, rfl, h1, h2⟩ := w.tup
    simp only [Option.some.injEq] at e; subst e
    obtain ⟨_, h3, k⟩ := pp.here S1.st
    cases h3
    exact ⟨a, vs, rfl, .inr h1.sq, fun q hq => k q vs hq h2⟩
  · cases e
/-- the context of a comprehension's block: nothing may be raised -/
abbrev Cf.blk (C : Cf) : Cf := { C with W := fun _ _ _ _ => False }
def ifsE (P : Pt) (G : Fns) (x : Xh) (ie : Ex) : Ev Bool := fun env st => match ie with
  | .nil => .ok true st
  | _ => tst (ev P G x ie env st)
def bodyE (P : Pt) (G : Fns) (x : Xh) (elt ifs : Ex) : Ev (Option D) := fun env st => (ifsE P G x ifs env st).bind fun b s2 => if b then (ev P G x elt env s2).bind fun z s3 => .ok (some z) s3 else .ok none s2
theorem loopC_cons {f : D → Store → R (Option D)} {x : D} {xs : List D} {st s : Store} {zs : List D} (h : loopC f (x :: xs) st = .ok zs s) :
    ∃ o s1 ys, f x st = .ok o s1 ∧ loopC f xs s1 = .ok ys s ∧ zs = (match o with | some y => y :: ys | none => ys) := by
  simp only [loopC] at h
  cases e : f x st with
  | ok o s1 =>
    rw [e] at h
    dsimp only at h
    cases e2 : loopC f xs s1 with
    | ok ys s2 =>
      rw [e2] at h
      injection h with h1 h2
      subst h2
      exact ⟨o, s1, ys, rfl, e2, h1.symm⟩
    | exc c fs s => rw [e2] at h; cases h
    | stuck => rw [e2] at h; cases h
  | exc c fs s => rw [e] at h; cases h
  | stuck => rw [e] at h; cases h
theorem loopC_noexc {f : D → Store → R (Option D)} : ∀ {xs : List D} {st : Store}, (∃ zs s, loopC f xs st = .ok zs s) ∨ loopC f xs st = .stuck := by
  intro xs
  induction xs with
  | nil => intro st; exact .inl ⟨_, _, rfl⟩
  | cons x xs ih =>
    intro st
    simp only [loopC]
    cases f x st with
    | ok o s1 =>
      dsimp only
      rcases ih (st := s1) with ⟨zs, s, e⟩ | e
      · rw [e]; exact .inl ⟨_, _, rfl⟩
      · rw [e]; exact .inr rfl
    | exc c fs s => exact .inr rfl
    | stuck => exact .inr rfl

theorem ev_cpr {elt it ifs : Ex} {own : List Nat} {tg : Tg} {x : Xh} {env : List Sl} {st : Store} : ev P G x (.cpr elt own tg it ifs) env st = (brw env it st (ev P G x it env st)).bind fun d s1 => match itemsD d with
    | some xs => if xs.length < big then (loopC (fun y s => match asgT tg y (wipeE env own) with
        | some env2 => bodyE P G x elt ifs env2 s
        | none => .stuck) xs s1).bind fun ys s2 => .ok (.lst ys) s2 else .stuck
    | none => .stuck := by
  conv => lhs; unfold ev
  congr 1
  funext d s1
  cases itemsD d with
  | none => rfl
  | some xs =>
    dsimp only
    split
    · congr 2
      funext y s
      cases asgT tg y (wipeE env own) with
      | none => rfl
      | some env2 =>
        unfold bodyE ifsE
        cases ifs with
        | nil =>
          dsimp only [R.bind]
          rw [if_pos rfl]
        | _ => rfl
    · rfl
/-- THE COMPREHENSION, its reading -/
theorem lc_go {elt ifs : Ex} {own : List Nat} {t : Tg} {it : Ex} {wi : TI} {tt : TT} {te : TE} (hown : ∀ i ∈ t.sl, i ∈ own)
    (hwi : ∀ σ H R, tIt (bs X C) C true (fun env st => brw env it st (ev P G C.xh it env st)) σ H R → wi σ H R)
    (htt : ∀ σ H Q, tT (bs X C) C.blk (ifsE P G C.xh ifs) σ H Q → tt σ H Q) (hte : ∀ σ H Q, tI (bs X C) C.blk (ev P G C.xh elt) σ H Q → te σ H Q)
    (σ : St) (H : Hp) (Q : VK) (q : tF (bs X C) C (ev P G C.xh (.cpr elt own t it ifs)) σ H Q) : tLc wi (gT X.K t) tt te own σ H Q := by
  obtain ⟨ω, env, st, S, q⟩ := q
  rw [ev_cpr] at q
  refine hwi _ _ _ ⟨ω, env, st, S, ?_⟩
  show Post (bs X C) C.W ω H σ (brw env it st (ev P G C.xh it env st)) _
  cases e : brw env it st (ev P G C.xh it env st) with
  | stuck => rw [e] at q; exact q.elim
  | exc c fs s => rw [e] at q; exact q
  | ok d s1 =>
    rw [e] at q
    intro ω1 H1 e1 z1
    have S1 := S.ext e1 z1
    have q1 := Post.mono q e1
    clear q
    dsimp only [R.bind] at q1
    cases hx : itemsD d with
    | none => rw [hx] at q1; exact q1.elim
    | some xs =>
      refine ⟨xs, rfl, fun J hJ D hD => ?_⟩
      rw [hx] at q1
      dsimp only at q1
      split at q1
      · rename_i hlen
        generalize hf : (fun y s => match asgT t y (wipeE env own) with
          | some env2 => bodyE P G C.xh elt ifs env2 s
          | none => R.stuck) = f at q1
        rcases loopC_noexc (f := f) (xs := xs) (st := s1) with ⟨fin, sf, ef⟩ | ef
        · rw [ef] at q1
          replace q1 : Post (bs X C) C.W ω1 H1 σ (R.ok (.lst fin) sf) fun d _ ω' H' => ∃ xs, d = Iv.D.lst xs ∧ ∀ p vs, H' p = none → RelDs (bs X C) ω' H' xs vs → Q (.ref p) (upd H' p (.lst vs)) := q1
          -- the invariant
          let Pv : Nat → Hp → Prop := fun i H => ∃ ω st ys vs zs, Ext ω1 H1 { ω with O := ω1.O } H ∧ ω.O = (fun a => ω1.O a ∨ a = D) ∧ SimSt (bs X C) ω st H ∧ H D = some (.lst vs) ∧ RelDs (bs X C) ω H ys vs ∧
            loopC f (xs.drop i) st = .ok zs sf ∧ ys ++ zs = fin ∧ ys.length ≤ i ∧ i ≤ xs.length
          have hz : xs.length ≤ sizeLine := by rw [sizeLine_eq]; unfold big at hlen; omega
          refine ⟨fun i m H => m = xs.length - i ∧ Pv i H, ⟨_, rfl, { ω1 with O := fun a => ω1.O a ∨ a = D }, s1, [], [], fin, Ext.new hD, rfl, S1.st.more hD, upd_same, .nil, by rw [List.drop_zero]; exact ef, rfl, Nat.le_refl _, Nat.zero_le _⟩, ?_⟩
          rintro i m H2 ⟨rfl, ω2, st2, ys, vs, zs, x2, hO, z2, hD2, rys, el, efin, hyi, hix⟩
          have kp : Keep ω1 H1 ω2 H2 := ⟨fun l a h => x2.phi l a h, fun a o ha n => by
            have nc : ¬ ω1.cell a := fun z => n (.inr z)
            obtain ⟨h1, h2⟩ := x2.at_ a o ha nc
            refine ⟨h1, fun z => ?_⟩
            rcases z with z | z
            · rw [hO] at z
              rcases z with z | z
              · exact n (.inl z)
              · exact ne_of_none ha hD z
            · exact h2 z⟩
          have ko : ∀ a o, H1 a = some o → ω1.O a → H2 a = some o ∧ ω2.O a := fun a o ha h => ⟨(x2.at_ a o ha fun ⟨l, hl⟩ => S1.st.noO l a hl h).1, by rw [hO]; exact .inl h⟩
          have kO : KeepO true ω1 H1 ω2 H2 := ⟨kp, fun _ a o ha h => (ko a o ha h).1⟩
          by_cases hi : i < xs.length
          · refine .inr ⟨hJ.go ω2 H2 kO i hi, Pv (i + 1), fun H3 p3 => ⟨_, by omega, rfl, p3⟩, fun x H3 y => ?_⟩
            obtain ⟨d', hd, x3, z3, r3⟩ := hJ.yld ω2 st2 H2 kO z2 i x H3 hi y
            have edrop : xs.drop i = d' :: xs.drop (i + 1) := by
              rw [List.drop_eq_getElem_cons hi]
              have : xs[i] = d' := by
                rw [List.getElem?_eq_getElem hi] at hd
                exact Option.some.inj hd
              rw [this]
            rw [edrop] at el
            obtain ⟨o, s4, ws, ef4, el4, ezs⟩ := loopC_cons el
            rw [← hf] at ef4
            dsimp only at ef4
            cases ea : asgT t d' (wipeE env own) with
            | none => rw [ea] at ef4; cases ef4
            | some env2 =>
              rw [ea] at ef4
              dsimp only at ef4
              have sE : SimEnv (bs X C) ω2 C.me env σ H2 := S1.env.keep kp ko
              have sX : XhOk (bs X C) ω2 H2 C := by
                have hx1 := S1.xh
                unfold XhOk at hx1 ⊢
                cases hxx : C.xh with
                | none => trivial
                | some fs =>
                  rw [hxx] at hx1
                  exact XhAt.keep hx1 kp
              have S2 : Sim (bs X C) C.blk ω2 (wipeE env own) st2 (wipe σ own) H2 := ⟨sE.wipe own, z2, sX⟩
              have S3 := S2.ext x3 z3
              refine gT_ok (B := bs X C) ea S3.env r3 fun σ4 sE4 hw _ => ⟨by rw [hw own hown, wipe_idem σ fun _ h => h], ?_⟩
              have S4 : Sim (bs X C) C.blk ω2 env2 st2 σ4 H3 := ⟨sE4, z3, S3.xh⟩
              refine htt _ _ _ ⟨ω2, env2, st2, S4, ?_⟩
              unfold bodyE at ef4
              cases eb : ifsE P G C.xh ifs env2 st2 with
              | stuck => rw [eb] at ef4; cases ef4
              | exc c fs s => rw [eb] at ef4; cases ef4
              | ok b s5 =>
                rw [eb] at ef4
                dsimp only [R.bind] at ef4
                intro ω5 H5 x5 z5
                have hD5 : H5 D = some (.lst vs) ∧ RelDs (bs X C) ω5 H5 ys vs := by
                  have nD : ∀ {ω : Wd} {st : Store} {H : Hp}, SimSt (bs X C) ω st H → ω.O D → ¬ ω.cell D := fun s h ⟨l, hl⟩ => s.noO l D hl h
                  have oD : ω2.O D := by rw [hO]; exact .inr rfl
                  have h3 := (x3.at_ D _ hD2 (nD z2 oD)).1
                  have h5 := (x5.at_ D _ h3 (nD z3 oD)).1
                  exact ⟨h5, (rys.keep x3.keep).keep x5.keep⟩
                have hO5 : ω5.O = fun a => ω1.O a ∨ a = D := by rw [x5.O]; exact hO
                have xt : Ext ω1 H1 { ω5 with O := ω1.O } H5 := by
                  refine ⟨fun l a h => x5.phi l a (x2.phi l a h), rfl, fun a o ha n => ?_⟩
                  obtain ⟨h2, n2⟩ := x2.at_ a o ha n
                  obtain ⟨h3, n3⟩ := x3.at_ a o h2 n2
                  exact x5.at_ a o h3 n3
                dsimp only
                cases b with
                | false =>
                  rw [if_neg Bool.false_ne_true] at ef4 ⊢
                  injection ef4 with h1 h2
                  subst h1 h2
                  exact ⟨ω5, s5, ys, vs, zs, xt, hO5, z5, hD5.1, hD5.2, by rw [el4, ezs], efin, by omega, by omega⟩
                | true =>
                  rw [if_pos rfl] at ef4 ⊢
                  refine hte _ _ _ ⟨ω5, env2, s5, S4.ext x5 z5, ?_⟩
                  cases ee : ev P G C.xh elt env2 s5 with
                  | stuck => rw [ee] at ef4; cases ef4
                  | exc c fs s => rw [ee] at ef4; cases ef4
                  | ok z s6 =>
                    rw [ee] at ef4
                    injection ef4 with h1 h2
                    subst h1 h2
                    intro ω6 H6 x6 z6 yv ry
                    have oD5 : ω5.O D := by rw [hO5]; exact .inr rfl
                    have h6 := (x6.at_ D _ hD5.1 fun ⟨l, hl⟩ => z5.noO l D hl oD5).1
                    have oD6 : ω6.O D := by rw [x6.O]; exact oD5
                    have r6 : RelDs (bs X C) ω6 H6 ys vs := hD5.2.keep x6.keep
                    refine ⟨vs, h6, ?_, ω6, s6, ys ++ [z], vs ++ [yv], ws, ?_, by rw [x6.O]; exact hO5, z6.own oD6, upd_same, (r6.append (.one ry)).keep (Keep.own oD6), el4, ?_, ?_, by omega⟩
                    · rw [← r6.length]; omega
                    · refine ⟨fun l a h => x6.phi l a (xt.phi l a h), rfl, fun a o ha n => ?_⟩
                      obtain ⟨h2, n2⟩ := xt.at_ a o ha n
                      obtain ⟨h3, n3⟩ := x6.at_ a o h2 n2
                      exact ⟨by rw [upd_ne (ne_of_none ha hD)]; exact h3, n3⟩
                    · rw [← efin, ezs, List.append_assoc]; rfl
                    · rw [List.length_append]; show ys.length + 1 ≤ i + 1; omega
          · have ei : i = xs.length := by omega
            subst ei
            refine .inl ⟨hJ.stop ω2 H2 kO, ?_⟩
            rw [List.drop_length] at el
            injection el with h1 h2
            subst h1 h2
            rw [List.append_nil] at efin
            subst efin
            have oD : ω2.O D := by rw [hO]; exact .inr rfl
            have k3 : Keep ω2 H2 { ω2 with O := ω1.O } (del H2 D) := ⟨fun _ _ h => h, fun a o ha n => ⟨by rw [del_ne (fun e => n (.inl (by rw [e]; exact oD)))]; exact ha, fun z => n (z.imp (fun h => by rw [hO]; exact .inl h) id)⟩⟩
            have z3 : SimSt (bs X C) { ω2 with O := ω1.O } st2 (del H2 D) := by
              refine ⟨fun l c hl => ?_, z2.dom, z2.inj, fun l a hl z => z2.noO l a hl (by rw [hO]; exact .inl z), fun a ha => ?_⟩
              · obtain ⟨a, g1, g2⟩ := z2.cells l c hl
                have na : a ≠ D := fun e => z2.noO l a g1 (by rw [e]; exact oD)
                exact ⟨a, g1, g2.keep k3 fun o q => by rw [del_ne na]; exact q⟩
              · obtain ⟨o, ho⟩ := Option.isSome_iff_exists.mp (S1.st.trO a ha)
                rw [del_ne (ne_of_none ho hD), (ko a o ho ha).1]; rfl
            have x3 : Ext ω1 H1 { ω2 with O := ω1.O } (del H2 D) := ⟨x2.phi, rfl, fun a o ha n => by
              obtain ⟨g1, g2⟩ := x2.at_ a o ha n
              exact ⟨by rw [del_ne (ne_of_none ha hD)]; exact g1, g2⟩⟩
            have eH : upd (del H2 D) D (.lst vs) = H2 := by
              funext b
              by_cases hb : b = D
              · subst hb; rw [upd_same, hD2]
              · rw [upd_ne hb, del_ne hb]
            obtain ⟨ys', h5, k⟩ := q1 { ω2 with O := ω1.O } (del H2 D) x3 z3
            cases h5
            have := k D vs del_same (rys.keep k3)
            rw [eH] at this
            exact this
        · rw [ef] at q1; exact q1.elim
      · exact q1.elim
theorem fin_cpr {elt it ifs : Ex} {own : List Nat} {tg : Tg} {x : Xh} : ∀ env st d s, ev P G x (.cpr elt own tg it ifs) env st = .ok d s → ∃ xs, d = .lst xs := fun env st d s h => by
  rw [ev_cpr] at h
  cases e : brw env it st (ev P G x it env st) with
  | stuck => rw [e] at h; cases h
  | exc c fs s => rw [e] at h; cases h
  | ok d s1 =>
    rw [e] at h
    dsimp only [R.bind] at h
    cases hx : itemsD d with
    | none => rw [hx] at h; cases h
    | some xs =>
      rw [hx] at h
      dsimp only at h
      split at h
      · rcases loopC_noexc (f := (fun y s => match asgT tg y (wipeE env own) with
          | some env2 => bodyE P G x elt ifs env2 s
          | none => R.stuck)) (xs := xs) (st := s1) with ⟨fin, sf, ef⟩ | ef
        · rw [ef] at h
          injection h with h1 h2
          exact ⟨_, h1.symm⟩
        · rw [ef] at h; cases h
      · cases h
theorem okf_cpr {elt tg iter : Expr} {ifs : List Expr} {scope : Scope} {ownS : List (Str × Nat)} {ie it ii : Ex} {t : Tg} (hc : X.calm = true) (hN : X.N.Nodup) (hs : ∀ x, foldedSetIterable iter X.env x = pure x) (hown : ∀ i ∈ t.sl, i ∈ ownS.map (·.2))
    (hi : OkI X C P G tg it iter) (ok : BlkOk X.N X.env.scope scope ownS)
    (hg : ∀ (s : Shared) (H : Hp) (Ca : Addr) (cl : List (Str × Addr)) (fp : List Addr), PG (X.blk s H scope (compEnvC scope cl Ca X.env) fp) tg (gT X.K t))
    (ht : ∀ (s : Shared) (H : Hp) (Ca : Addr) (cl : List (Str × Addr)) (fp : List Addr), PTs (X.blk s H scope (compEnvC scope cl Ca X.env) fp) ifs (tT (bs X C) C.blk (ifsE P G C.xh ii)))
    (he : ∀ (s : Shared) (H : Hp) (Ca : Addr) (cl : List (Str × Addr)) (fp : List Addr), OkE (X.blk s H scope (compEnvC scope cl Ca X.env) fp) C.blk P G ie elt) :
    OkF X C P G (.cpr ie (ownS.map (·.2)) t it ii) (.ListComp elt [⟨tg, iter, ifs, 0⟩] scope pos) :=
  pe_weak (pe_lc hc hN hi ok hg ht he hs) fun σ H Q q => lc_go hown (fun _ _ _ z => z) (fun _ _ _ z => z) (fun _ _ _ z => z) σ H Q q
/-- name = [..] -/
theorem okf_setcpr {elt tg iter : Expr} {ifs : List Expr} {scope : Scope} {ownS : List (Str × Nat)} {ie it ii : Ex} {t : Tg} {i : Nat} {y : Str} {py spos : Pos} (hc : X.calm = true) (hN : X.N.Nodup) (hs : ∀ x, foldedSetIterable iter X.env x = pure x) (hown : ∀ i ∈ t.sl, i ∈ ownS.map (·.2))
    (hy : X.N[i]? = some y) (hyl : X.env.scope.names.lookup y = some .local) (hsw : swapsWith (.ListComp elt [⟨tg, iter, ifs, 0⟩] scope pos) (some (.Name y py)) spos.line X.env = pure true)
    (hi : OkI X C P G tg it iter) (ok : BlkOk X.N X.env.scope scope ownS)
    (hg : ∀ (s : Shared) (H : Hp) (Ca : Addr) (cl : List (Str × Addr)) (fp : List Addr), PG (X.blk s H scope (compEnvC scope cl Ca X.env) fp) tg (gT X.K t))
    (ht : ∀ (s : Shared) (H : Hp) (Ca : Addr) (cl : List (Str × Addr)) (fp : List Addr), PTs (X.blk s H scope (compEnvC scope cl Ca X.env) fp) ifs (tT (bs X C) C.blk (ifsE P G C.xh ii)))
    (he : ∀ (s : Shared) (H : Hp) (Ca : Addr) (cl : List (Str × Addr)) (fp : List Addr), OkE (X.blk s H scope (compEnvC scope cl Ca X.env) fp) C.blk P G ie elt) :
    PS X (.Assign [.Name y py] (.ListComp elt [⟨tg, iter, ifs, 0⟩] scope pos) spos) (tAsg (tF (bs X C) C (ev P G C.xh (.cpr ie (ownS.map (·.2)) t it ii))) (gName i)) :=
  ps_weak (ps_setLc hc hN hy hyl hsw hi ok hg ht he hs) fun D σ H q => lc_go hown (fun _ _ _ z => z) (fun _ _ _ z => z) (fun _ _ _ z => z) σ H _ q
theorem ok_cpr {elt tg iter : Expr} {ifs : List Expr} {scope : Scope} {ownS : List (Str × Nat)} {ie it ii : Ex} {t : Tg} (hc : X.calm = true) (hN : X.N.Nodup) (hs : ∀ x, foldedSetIterable iter X.env x = pure x) (hown : ∀ i ∈ t.sl, i ∈ ownS.map (·.2))
    (hi : OkI X C P G tg it iter) (ok : BlkOk X.N X.env.scope scope ownS)
    (hg : ∀ (s : Shared) (H : Hp) (Ca : Addr) (cl : List (Str × Addr)) (fp : List Addr), PG (X.blk s H scope (compEnvC scope cl Ca X.env) fp) tg (gT X.K t))
    (ht : ∀ (s : Shared) (H : Hp) (Ca : Addr) (cl : List (Str × Addr)) (fp : List Addr), PTs (X.blk s H scope (compEnvC scope cl Ca X.env) fp) ifs (tT (bs X C) C.blk (ifsE P G C.xh ii)))
    (he : ∀ (s : Shared) (H : Hp) (Ca : Addr) (cl : List (Str × Addr)) (fp : List Addr), OkE (X.blk s H scope (compEnvC scope cl Ca X.env) fp) C.blk P G ie elt) :
    OkE X C P G (.cpr ie (ownS.map (·.2)) t it ii) (.ListComp elt [⟨tg, iter, ifs, 0⟩] scope pos) :=
  okE_of_F fin_cpr (okf_cpr hc hN hs hown hi ok hg ht he)
end
end Iv

set_option Elab.async false
set_option linter.all false
set_option maxRecDepth 100000
set_option maxHeartbeats 4000000
/-! IvWa: enumerate over a list, a tuple, a text. -/
namespace Iv
open PySem PySem.Spec L2
open PyProof.Rows hiding St
section
variable {prog : Program} {w : World} {A : Around} {E : Value → Shared → Prop} {s : Shared}
theorem enumT_new (l : Addr) (items : Array Value) :
    Meets (Builtin.«enumerate.__new__» ⟨[.type "enumerate", .ref l], []⟩) (fun _ R s => s.heap.IsTuple l items ∧
      R (.ok (.ret (.ref (s.heap.push { cls := .type "tuple_iterator", data := .fields #[.ref l, .int 0 0] }).objs.size)))
        { s with heap := (s.heap.push { cls := .type "tuple_iterator", data := .fields #[.ref l, .int 0 0] }).push { cls := .type "enumerate", data := .fields #[.none, .bool false, .ref s.heap.objs.size, rawInt 0, .none, .none] } }) :=
  .of_wp fun prog w A R s h => by
    obtain ⟨hp, g, d, tk, os⟩ := s; obtain ⟨hL, h⟩ := h
    have hsub := sub_enumerate
    have q1 : ∀ {A' : Around} {E : Value → Shared → Prop} {Q : Value → Shared → Prop}, Q (.ref hp.objs.size) ⟨hp.push { cls := .type "tuple_iterator", data := .fields #[.ref l, .int 0 0] }, g, d, tk, os⟩ → wpAny (model prog w) A' (pyIter (.ref l)) Q E ⟨hp, g, d, tk, os⟩ :=
      fun q => wpAny_pyIter_tuple (s := ⟨hp, g, d, tk, os⟩) hL q
    wp_walk using q1
    refine wpAny_stack_any fun st => wpAny_pure ?_
    split
    · rename_i c _ _ _ _ _
      cases (c == Value.type "enumerate")
      · wp_walk using q1
        exact ⟨_, rfl, h⟩
      · wp_walk using q1
        exact ⟨_, rfl, h⟩
    · wp_walk using q1
      exact ⟨_, rfl, h⟩
theorem call_enumT {l : Addr} {items : Array Value} {Q : Value → Shared → Prop} (hL : s.heap.IsTuple l items)
    (h : ∀ h', IsEnum h' (s.heap.objs.size + 1) s.heap.objs.size 0 .none → h'.IsTupleIter s.heap.objs.size l 0 → h'.objs.size = s.heap.objs.size + 2 →
      (∀ b o, s.heap.get? b = some o → h'.get? b = some o) → Q (.ref (s.heap.objs.size + 1)) { s with heap := h' }) :
    wpAny (model prog w) A (call (.type "enumerate") [.ref l]) Q E s := by
  refine callType_new F.called_enumerate (by decide) (F.typeCall_enumerate_1 _) (F.newCall_enumerate_1 _) (fun obj => F.args_object_init_2 obj _) F.entry_enumerate_new
    (enumT_new l items) ⟨hL, ?_⟩
  have hz : (s.heap.push { cls := .type "tuple_iterator", data := .fields #[.ref l, .int 0 0] }).objs.size = s.heap.objs.size + 1 := Heap.size_push ..
  show _ ∧ _
  rw [hz]
  have he : IsEnum ((s.heap.push { cls := .type "tuple_iterator", data := .fields #[.ref l, .int 0 0] }).push
      { cls := .type "enumerate", data := .fields #[.none, .bool false, .ref s.heap.objs.size, rawInt 0, .none, .none] }) (s.heap.objs.size + 1) s.heap.objs.size 0 .none := by
    have := Heap.get?_push_size (s.heap.push { cls := .type "tuple_iterator", data := .fields #[.ref l, .int 0 0] })
      (o := { cls := .type "enumerate", data := .fields #[.none, .bool false, .ref s.heap.objs.size, rawInt 0, .none, .none] }) rfl
    rw [hz] at this; exact this
  refine ⟨⟨_, he, rfl⟩, h _ he ⟨_, Heap.get?_push_of_some _ (Heap.get?_push_size _ rfl), rfl, rfl⟩ (by rw [Heap.size_push, hz]) fun b o x => Heap.get?_push_of_some _ (Heap.get?_push_of_some _ x)⟩
end
/-- the tuple at a, each item in a new pair -/
def IteT (K : PySem.W.Frag) (a : Addr) : It :=
  ⟨fun i H => ∃ (xs : List V) (x : V), SqT K H a xs ∧ xs[i]? = some x, fun i H v H' => ∃ T x, v = .ref T ∧ H T = none ∧ H' = upd H T (.tup [.int (i : Nat), x]) ∧ ∀ xs, SqT K H a xs → xs[i]? = some x, fun i H => ∃ xs : List V, SqT K H a xs ∧ xs.length = i⟩
/-- the signs of a text, each in a new pair -/
def IteS (z : Str) : It :=
  ⟨fun i H => i < z.cps.size, fun i H v H' => ∃ T c, v = .ref T ∧ H T = none ∧ H' = upd H T (.tup [.int (i : Nat), .str ⟨#[c]⟩]) ∧ z.cps[i]? = some c, fun i H => z.cps.size = i⟩
theorem turn_enumG {P : Program} {w : World} {K : PySem.W.Frag} {elts : List Expr} {kk : Nat} {tpos : Pos} (e it : Addr) (J : It) (IsI : Heap → Nat → Prop)
    (obj1 : ∀ h i, IsI h i → ∃ o, h.get? it = some o ∧ ∀ v, o.data ≠ .cell v)
    (at1 : ∀ h h' i, IsI h i → (∀ o, h.get? it = some o → h'.get? it = some o) → IsI h' i)
    (drawGo : ∀ (X : Cx), X.prog = P → X.w = w → X.K = K → X.calm = true → ∀ (i : Nat) (pins : List (Addr × Obj)) (s : Shared) (σ : St) (H : Hp), Inv X pins σ H s → IsI s.heap i → J.go i H →
      ∃ (fp : List Addr) (n : Nat) (Pd : Nat → Value → Prop) (Std : Nat → Heap → Prop), Draws P w X.A.in1 it fp n Pd Std ∧ (e ≠ it → (∀ o, s.heap.get? e = some o → o.cls ≠ .type "tuple") → e ∉ fp) ∧ Std i s.heap ∧ (∀ h', Std (i + 1) h' → IsI h' (i + 1)) ∧
        i < n ∧ ∀ x, Pd i x → ∃ v, RelV v x ∧ ∀ T, H T = none → J.yld i H (.ref T) (upd H T (.tup [.int (i : Nat), v])))
    (drawStop : ∀ (X : Cx), X.prog = P → X.w = w → X.K = K → X.calm = true → ∀ (i : Nat) (pins : List (Addr × Obj)) (s : Shared) (σ : St) (H : Hp), Inv X pins σ H s → IsI s.heap i → J.stop i H →
      ∃ (fp : List Addr) (n : Nat) (Pd : Nat → Value → Prop) (Std : Nat → Heap → Prop), Draws P w X.A.in1 it fp n Pd Std ∧ Std n s.heap) :
    Turn P w K (.Tuple elts kk tpos) J [e, it] e (fun i h => (∃ old, IsEnum h e it ((i : Nat) : Int) old) ∧ IsI h i ∧ e ≠ it) where
  mem := by simp
  obj := fun i h st b hb => by
    obtain ⟨⟨old, he⟩, hi, _⟩ := st
    have e' : b = e ∨ b = it := by simpa using hb
    rcases e' with z | z
    · rw [z]; exact ⟨_, he, fun v q => nomatch q⟩
    · rw [z]; exact obj1 h i hi
  keep := fun i h h' st k => let ⟨⟨old, he⟩, hi, hne⟩ := st; ⟨⟨old, k e (by simp) _ he⟩, at1 h h' i hi fun o q => k it (by simp) o q, hne⟩
  item := by
    intro X hP hw hK hc i pins s σ H E I hf st hg
    obtain ⟨⟨old, he⟩, hit, hne⟩ := st
    obtain ⟨fp, n, Pd, Std, D, hef, hst, hnx, hlt, hrel⟩ := drawGo X hP hw hK hc i pins s σ H I hit hg
    subst hP hw hK
    have hel : e < s.heap.objs.size := Heap.lt_size he
    have hil : it < s.heap.objs.size := by obtain ⟨_, q, _⟩ := obj1 _ _ hit; exact Heap.lt_size q
    have hef' : e ∉ fp := hef hne fun o q z => by
      rw [he] at q; cases q
      injection z with z
      exact absurd z (by decide)
    refine wpAny_pyNext_enum_itemC D he hst hlt hne hef' fun x h' tk hP ho hst' hT hsz hk => ?_
    obtain ⟨v, ru, hy⟩ := hrel x hP
    refine ⟨_, rfl, wpAny_letOwnedTupleGo_enum (s := { s with heap := h', toks := tk + 1 }) ho fun h'' he' sb => ?_⟩
    have hT2 : h''.get? s.heap.objs.size = some { cls := .type "tuple", data := .seq #[.int i tk, x] } := (sb.2 _ (Nat.ne_of_gt hel)).trans hT
    have new : ObjOk X.prog X.w (upd H s.heap.objs.size (.tup [.int (i : Nat), v])) h'' s.heap.objs.size (.tup [.int (i : Nat), v]) :=
      ⟨by show 2 ≤ sizeLine; decide, [.int i tk, x], .cons ⟨_, rfl⟩ (.cons ru .nil), ⟨_, hT2, rfl, _, rfl⟩⟩
    have I1 : Inv X pins σ (upd H s.heap.objs.size (.tup [.int (i : Nat), v])) { s with heap := h'', toks := tk + 1 } :=
      I.turnedNew (ch := [e, it]) (fun b ob hb q => (sb.2 b (fun z => hb (by simp [z]))).trans (hk b ob (fun z => hb (by simp [z])) (fun z => hb (by simp [z])) q)) hf (Nat.le_refl _) new
    refine ⟨.ref s.heap.objs.size, _, I1, rfl, hy _ (I.hok.fresh (Nat.le_refl _)), ⟨⟨x, ?_⟩, at1 h' h'' (i + 1) (hnx h' hst') (fun o q => (sb.2 it (Ne.symm hne)).trans q), hne⟩, fun b hb => ?_⟩
    · have e1 : ((i + 1 : Nat) : Int) = (i : Int) + 1 := by omega
      rw [e1]; exact he'
    · have hb' : b < s.heap.objs.size := by
        have e' : b = e ∨ b = it := by simpa using hb
        rcases e' with z | z
        · rw [z]; exact hel
        · rw [z]; exact hil
      rw [upd_ne (Nat.ne_of_lt hb')]
      exact (hf b hb).1
  done := by
    intro X hP hw hK hc i pins s σ H E I hf st hg
    obtain ⟨⟨old, he⟩, hit, hne⟩ := st
    obtain ⟨fp, n, Pd, Std, D, hst2⟩ := drawStop X hP hw hK hc i pins s σ H I hit hg
    subst hP hw hK
    obtain ⟨f0, f1, f2, f3, f4, f5⟩ := hf it (by simp)
    exact wpAny_pyNext_enum_endD D he hst2 fun h' eb => ⟨rfl, I.turned (t' := s.toks) (fun b o hb q => eb b o hb q) f0 f1 f3 f4 f5⟩
  self := fun A i s Q E st h => let ⟨⟨_, he⟩, _⟩ := st; wpAny_pyIter_enum he h
theorem turn_enumT {P : Program} {w : World} {K : PySem.W.Frag} {elts : List Expr} {kk : Nat} {tpos : Pos} (a e it : Addr) (hat : a ≠ it) :
    Turn P w K (.Tuple elts kk tpos) (IteT K a) [e, it] e (fun i h => (∃ old, IsEnum h e it ((i : Nat) : Int) old) ∧ h.IsTupleIter it a i ∧ e ≠ it) :=
  turn_enumG e it _ (fun h i => h.IsTupleIter it a i) (fun h i ⟨o, e, c, d⟩ => ⟨o, e, fun v z => by rw [d] at z; cases z⟩) (fun h h' i st k => st.at k)
    (fun X hP hw hK hc i pins s σ H I hit ⟨xs, x, hq, hx⟩ => by
      subst hP hw hK
      obtain ⟨its, rv, p, hz⟩ := I.tuple hq
      have D := Draws.tuple (prog := X.prog) (w := X.w) (A := X.A.in1) (show X.A.in1.handled = none from I.ok.hd hc) it a hat its.toArray
      refine ⟨_, _, _, _, D, fun hne hcl => ?_, ⟨hit, p⟩, fun h' q => q.1, ?_⟩
      · intro z
        rcases List.mem_cons.mp z with z | z
        · exact hne z
        · have z' : e = a := by simpa using z
          obtain ⟨o, ho, hcls, _⟩ := p
          exact hcl o (by rw [z']; exact ho) hcls
      · obtain ⟨u, hu, ru⟩ := rv.get hx
        have hlt : i < its.length := (List.getElem?_eq_some_iff.mp hu).1
        refine ⟨by simpa using hlt, fun x' hx' => ⟨x, ?_, fun T hT => ⟨T, x, rfl, hT, rfl, fun zs hzs => by rw [I.tuple_inj hzs hq]; exact hx⟩⟩⟩
        have : its[i]? = some x' := by simpa using hx'
        rw [this] at hu; cases hu; exact ru)
    (fun X hP hw hK hc i pins s σ H I hit ⟨xs, hq, hl⟩ => by
      subst hP hw hK
      obtain ⟨its, rv, p, hz⟩ := I.tuple hq
      have D := Draws.tuple (prog := X.prog) (w := X.w) (A := X.A.in1) (show X.A.in1.handled = none from I.ok.hd hc) it a hat its.toArray
      refine ⟨_, _, _, _, D, ?_, p⟩
      rw [List.size_toArray, ← rv.length, hl]
      exact hit)
theorem turn_enumS {P : Program} {w : World} {K : PySem.W.Frag} {elts : List Expr} {kk : Nat} {tpos : Pos} (z : Str) (t : Tok) (e it : Addr) :
    Turn P w K (.Tuple elts kk tpos) (IteS z) [e, it] e (fun i h => (∃ old, IsEnum h e it ((i : Nat) : Int) old) ∧ h.IsStrIter it (strIterType z) z t i ∧ e ≠ it) :=
  turn_enumG e it _ (fun h i => h.IsStrIter it (strIterType z) z t i) (fun h i ⟨o, e, c, d⟩ => ⟨o, e, fun v z => by rw [d] at z; cases z⟩) (fun h h' i ⟨o, ho, r⟩ k => ⟨o, k o ho, r⟩)
    (fun X hP hw hK hc i pins s σ H I hit hlt => by
      subst hP hw hK
      have D := Draws.text (prog := X.prog) (w := X.w) (A := X.A.in1) (show X.A.in1.handled = none from I.ok.hd hc) it z t
      refine ⟨_, _, _, _, D, fun hne _ => by simpa using hne, hit, fun h' q => q, hlt, fun x hx => ?_⟩
      obtain ⟨c, u, h1, rfl⟩ := hx
      exact ⟨.str ⟨#[c]⟩, ⟨_, rfl⟩, fun T hT => ⟨T, c, rfl, hT, rfl, h1⟩⟩)
    (fun X hP hw hK hc i pins s σ H I hit hl => by
      subst hP hw hK
      have D := Draws.text (prog := X.prog) (w := X.w) (A := X.A.in1) (show X.A.in1.handled = none from I.ok.hd hc) it z t
      have hl' : z.cps.size = i := hl
      exact ⟨_, _, _, _, D, by rw [hl']; exact hit⟩)
/-- enumerate of a list, a tuple, a text -/
def iEnumA (K : PySem.W.Frag) (ta : TA) : TI := fun σ H R => ta σ H fun vs H1 => (∃ a xs, vs = [.ref a] ∧ SqL K H1 a xs ∧ R (Ite K a) H1) ∨ (∃ a xs, vs = [.ref a] ∧ SqT K H1 a xs ∧ R (IteT K a) H1) ∨ (∃ z, vs = [.str z] ∧ R (IteS z) H1)
theorem pi_enumA {X : Cx} {e : Expr} {ta : TA} {p pos tpos : Pos} {elts : List Expr} {kk : Nat} (hg : Gl X "enumerate") (hm : X.mg "enumerate" = none) (ha : PA X [e] ta) (hs : starEach [e] X.env = [(false, eval e X.env)] := by rfl) :
    PI X (.Tuple elts kk tpos) (.Call (.Name "enumerate" p) [e] [] pos) (iEnumA X.K ta) := by
  refine ⟨fun pins s σ H R I h => ?_⟩
  refine Call_ (ld_blt I hg hm boot_enumerate (PyProof.Rows.callWith_type1 (thn (ha.run pos pins s σ H _ I h) fun us s1 ⟨vs, H1, I1, r1, q1⟩ => ?_) hs rfl))
  have fp2 : ∀ b ∈ [s1.heap.objs.size + 1, s1.heap.objs.size], FpOk X pins H1 b := fun b hb => by
    have e' : b = s1.heap.objs.size + 1 ∨ b = s1.heap.objs.size := by simpa using hb
    have hle : s1.heap.objs.size ≤ b := by
      rcases e' with z | z
      · rw [z]; exact Nat.le_add_right _ _
      · rw [z]; exact Nat.le_refl _
    exact I1.fpOk hle (I1.hok.fresh hle)
  rcases q1 with ⟨a, xs, ex, hq, q⟩ | ⟨a, xs, ex, hq, q⟩ | ⟨z, ex, q⟩
  · subst ex
    cases r1 with
    | cons r rr =>
      cases rr
      cases r
      obtain ⟨its, rv, p', hz⟩ := I1.list hq
      refine call_enumerate_list p'.isList fun h' he hit hsz hk => wpAny_pyIter_enum he ?_
      have I2 : Inv X pins σ H1 { s1 with heap := h' } := I1.kept (t' := s1.toks) hk
      exact ⟨s1.heap.objs.size + 1, [s1.heap.objs.size + 1, s1.heap.objs.size], _, _, H1, rfl, I2, turn_enum a (s1.heap.objs.size + 1) s1.heap.objs.size, ⟨⟨.none, he⟩, hit, Nat.succ_ne_self _⟩, fp2, q⟩
  · subst ex
    cases r1 with
    | cons r rr =>
      cases rr
      cases r
      obtain ⟨its, rv, p', hz⟩ := I1.tuple hq
      have hlt : a < s1.heap.objs.size := by obtain ⟨_, e, _⟩ := p'; exact Heap.lt_size e
      refine call_enumT (show s1.heap.IsTuple a its.toArray from p') fun h' he hit hsz hk => wpAny_pyIter_enum he ?_
      have I2 : Inv X pins σ H1 { s1 with heap := h' } := I1.kept (t' := s1.toks) hk
      exact ⟨s1.heap.objs.size + 1, [s1.heap.objs.size + 1, s1.heap.objs.size], _, _, H1, rfl, I2, turn_enumT a (s1.heap.objs.size + 1) s1.heap.objs.size (Nat.ne_of_lt hlt), ⟨⟨.none, he⟩, hit, Nat.succ_ne_self _⟩, fp2, q⟩
  · subst ex
    cases r1 with
    | cons r rr =>
      cases rr
      obtain ⟨t, rfl⟩ := r
      refine call_enumerate_str fun h' he hit hsz hk => wpAny_pyIter_enum he ?_
      have I2 : Inv X pins σ H1 { s1 with heap := h' } := I1.kept (t' := s1.toks) hk
      exact ⟨s1.heap.objs.size + 1, [s1.heap.objs.size + 1, s1.heap.objs.size], _, _, H1, rfl, I2, turn_enumS z t (s1.heap.objs.size + 1) s1.heap.objs.size, ⟨⟨.none, he⟩, hit, Nat.succ_ne_self _⟩, fp2, q⟩
end Iv

set_option Elab.async false
set_option linter.all false
set_option maxRecDepth 100000
set_option maxHeartbeats 4000000
/-! IvWb: own classes: == and != by an own __eq__, isinstance. -/
namespace Iv
open PySem PySem.Spec L2
open PyProof.Rows hiding St
structure OwnC (K : PySem.W.Frag) (C : Addr) : Prop where
  cl : Cls K C
  ne : PySem.W.findIn K (.ref C) "__ne__" = some (some (.builtin "object.__ne__"))
  ca : PySem.W.findIn K (.ref C) "__class__" = some (some (.builtin "object.__class__"))
  cg : PySem.W.specialIn K (.builtin "object.__class__") "__get__" = some (some (.builtin "getset_descriptor.__get__"))
  ct : PySem.W.takesIn K (.builtin "object.__class__") = some true
  ob : PySem.W.mroIn K C (.type "object") = some true
  ci : ((PySem.W.clsIn K C).isSome && PySem.W.typeIn K (.ref C) == some (.type "type")) = true
def OwnC.bad (K : PySem.W.Frag) (C : Addr) : Bool :=
  PySem.W.plainGet K C Str.empty && PySem.W.hasDictIn K C && PySem.W.plainOver K C && decide (PySem.W.findIn K (.ref C) "__setattr__" = some (some (.builtin "object.__setattr__"))) &&
  decide (PySem.W.findIn K (.ref C) "__ne__" = some (some (.builtin "object.__ne__"))) && decide (PySem.W.findIn K (.ref C) "__class__" = some (some (.builtin "object.__class__"))) &&
  decide (PySem.W.specialIn K (.builtin "object.__class__") "__get__" = some (some (.builtin "getset_descriptor.__get__"))) && decide (PySem.W.takesIn K (.builtin "object.__class__") = some true) &&
  decide (PySem.W.mroIn K C (.type "object") = some true) && ((PySem.W.clsIn K C).isSome && PySem.W.typeIn K (.ref C) == some (.type "type"))
theorem OwnC.of {K : PySem.W.Frag} {C : Addr} (h : OwnC.bad K C = true) : OwnC K C := by
  unfold OwnC.bad at h
  rw [Bool.and_eq_true] at h
  obtain ⟨h, h10⟩ := h
  simp only [Bool.and_eq_true, decide_eq_true_eq] at h
  obtain ⟨⟨⟨⟨⟨⟨⟨⟨h1, h2⟩, h3⟩, h4⟩, h5⟩, h6⟩, h7⟩, h8⟩, h9⟩ := h
  exact ⟨⟨h1, h2, h3, h4⟩, h5, h6, h7, h8, h9, h10⟩
def plainTys : List String := ["tuple", "list", "NoneType", "int", "bool", "str", "dict"]
theorem mro_no {t : String} (ht : t ∈ plainTys) : ∃ l, PySem.fastBuiltinMro t = some l ∧ ∀ C : Addr, l.contains (.ref C) = false := by
  simp only [plainTys, List.mem_cons, List.not_mem_nil, or_false] at ht
  rcases ht with rfl | rfl | rfl | rfl | rfl | rfl | rfl
  · exact ⟨[.type "tuple", .type "object"], by decide +kernel, fun C => by simp⟩
  · exact ⟨[.type "list", .type "object"], by decide +kernel, fun C => by simp⟩
  · exact ⟨[.type "NoneType", .type "object"], by decide +kernel, fun C => by simp⟩
  · exact ⟨[.type "int", .type "object"], by decide +kernel, fun C => by simp⟩
  · exact ⟨[.type "bool", .type "int", .type "object"], by decide +kernel, fun C => by simp⟩
  · exact ⟨[.type "str", .type "object"], by decide +kernel, fun C => by simp⟩
  · exact ⟨[.type "dict", .type "object"], by decide +kernel, fun C => by simp⟩
theorem sub_no {K : PySem.W.Frag} {t : String} (ht : t ∈ plainTys) (C : Addr) : PySem.W.subIn K (.type t) (.ref C) = some false := by
  obtain ⟨l, e, h⟩ := mro_no ht
  show (PySem.fastBuiltinMro t).map _ = _
  rw [e, Option.map_some, h C]
theorem kit_no {K : PySem.W.Frag} {t : String} {C : Addr} (ht : t ∈ plainTys) (o : OwnC K C) : PySem.W.kitOne K (.type t) (.ref C) = some false := by
  unfold PySem.W.kitOne
  rw [if_neg (by simp)]
  show (if _ then _ else _) = _
  rw [if_pos o.ci]
  exact sub_no ht C
theorem kit_self {K : PySem.W.Frag} {C : Addr} : PySem.W.kitOne K (.ref C) (.ref C) = some true := by
  unfold PySem.W.kitOne
  rw [if_pos (by simp)]
theorem ty_plain {d : D} {t : String} (h : tyD d = some t) : t ∈ plainTys := by
  cases d <;> simp [tyD] at h <;> subst h <;> simp [plainTys]
section
variable {prog : Program} {w : World} {A : Around} {E : Value → Shared → Prop} {s : Shared} {K : PySem.W.Frag} {x C L f : Addr} {h₀ : Heap} {m : Str → Option Value} {ox : Obj} {od : Option Obj} {b tb : Value}
theorem ne_K {Q : Value → Shared → Prop} (hu : A.units + 1 < cLine) (F : Fr h₀ L s.heap m) (X₀ : K.In h₀) (I : PySem.W.InstAt s.heap x ox C od) (hb : PySem.W.Looks (model prog w) s.heap (typeOf b) tb) (hn : PySem.W.notFirst K C tb = true)
    (o : OwnC K C) (hs : PySem.W.findIn K (.ref C) "__eq__" = some (some (.ref f))) (hf : PySem.W.isFn K (.ref f) = true)
    (h : wpAny (model prog w) A.in1 (call (.ref f) [.ref x, b]) (fun v s' => ∃ r, v = .bool r ∧ Q (.bool (!r)) s') E s) : wpAny (model prog w) A (richCompare .NotEq (.ref x) b) Q E s := by
  have X := X₀.keeps F.keep
  have body : wpAny (model prog w) A.in1 (Builtin.«object.__ne__» ⟨[.ref x, b], []⟩) (fun fin s' => ∃ v, fin = .done (.ret v) ∧ ∃ r, v = .bool (!r) ∧ Q (.bool (!r)) s') E s := by
    unfold Builtin.«object.__ne__»
    repeat (first
      | with_reducible refine wpAny_cRoomFor (show A.in1.units < cLine from hu) ?_
      | (refine wpAny_bind (m := callSpecialIfBound? (.ref x) (Str.ofString "__eq__") [b])
          (PySem.W.ifBound_K X I hs hf (wpAny_mono h (fun r s' hr => by
            obtain ⟨b, rfl, hq⟩ := hr
            repeat (first | exact ⟨_, rfl, b, rfl, hq⟩ | (refine wpAny_pure ?_) | (refine wpAny_bind (m := truthy (.bool _)) (wpAny_truthy_bool ?_)) | wp_step)) fun _ _ e => e)))
      | wp_step)
  have cl : wpAny (model prog w) A (call (.builtin "object.__ne__") [.ref x, b]) (fun v s' => ∃ r, v = .bool (!r) ∧ Q (.bool (!r)) s') E s := by
    refine wpAny_call (codeAny_call_builtin PySem.F.cmp_object.ne.plain PySem.F.cmpEntry_ne (@PySem.W.check_slot (model prog w) _ _ s "object.__ne__" "object" "__ne__" (.ref x) [b] [] _ PySem.F.cmpKind_ne PySem.F.cmpSplit_ne (I.type.andThen (PySem.W.looks_subIn X o.ob)) (PySem.F.cmpArgs_ne _ _) ?_))
    exact wpAny_mono body (fun fin s' hv => by obtain ⟨v, rfl, q⟩ := hv; exact q) fun _ _ z => z
  have one : wpAny (model prog w) A (tryCompare (.ref x) "__ne__" b) (fun r s' => ∃ v, r = some v ∧ Q v s') E s := by
    unfold tryCompare
    refine wpAny_bind ?_
    simp only [callSpecialIfBound?, bindSpecialIfBound?]
    refine wpAny_holding (wpAny_bind (wpAny_bind (wpAny_bind (I.type.here ((PySem.W.looks_findIn X o.ne).here ?_)))))
    refine wpAny_bind (wpAny_askSetting (wpAny_ite ?_))
    have fin : wpAny (model prog w) A (call (.builtin "object.__ne__") ([.ref x] ++ [b]) >>= fun v => pure (some v)) (fun r s' => wpAny (model prog w) A (match r with
        | some .notImplemented => pure none
        | none => pure none
        | some v => pure (some v)) (fun r s' => ∃ v, r = some v ∧ Q v s') E s') E s := wpAny_bind (wpAny_mono cl (fun v s' h' => by
      obtain ⟨r, rfl, q⟩ := h'
      exact wpAny_pure (wpAny_pure ⟨_, rfl, q⟩)) fun _ _ h' => h')
    split
    · exact wpAny_bind (wpAny_of_eq (PySem.F.cmp_object.ne.bind _) (wpAny_pure (by exact fin)))
    · exact wpAny_tryCatch (wpAny_bind (wpAny_of_eq (PySem.F.cmp_object.ne.bind _) (wpAny_pure (by exact fin))))
  unfold richCompare
  simp only [oneThing_ref]
  refine wpAny_holding (wpAny_bind (wpAny_cRoomFor (Nat.lt_of_succ_lt hu) ?_))
  refine wpAny_bind (I.type.here (wpAny_bind (hb.here ?_)))
  split
  · rename_i q
    have e : PySem.W.subIn K tb (.ref C) = some false := by
      rcases Bool.or_eq_true_iff.mp hn with e | e
      · rw [beq_iff_eq.mp e] at q; simp at q
      · exact beq_iff_eq.mp e
    refine wpAny_bind ((PySem.W.looks_subIn X e).here ?_)
    simp only [Bool.false_eq_true, if_false]
    refine wpAny_bind (wpAny_mono one (fun r s' z => ?_) fun _ _ e => e)
    obtain ⟨v, rfl, hq⟩ := z
    exact wpAny_pure hq
  · refine wpAny_bind (wpAny_pure ?_)
    simp only [Bool.false_eq_true, if_false]
    refine wpAny_bind (wpAny_mono one (fun r s' z => ?_) fun _ _ e => e)
    obtain ⟨v, rfl, hq⟩ := z
    exact wpAny_pure hq
end

section
variable {X : Cx} {C : Cf} {P : Pt} {G : Fns} {a b e : Expr} {ia ib ie : Ex} {pos p p2 : Pos} {n f c : Nat} {x : Str}
theorem cx_no {P : Program} {w : World} {l : List Env} {H : Hp} {s : Shared} {e : Value} {s' : Shared} (h : L2.CX P w l H s (fun _ _ _ => False) e s') : False := by
  obtain ⟨a, B, H', cls, d, _, _, _, _, _, _, _, z⟩ := h
  exact z
/-- a def's call at another depth, where nothing is raised -/
theorem run_fnA {pins : List (Addr × Obj)} {σ : St} {H : Hp} {s : Shared} {Q : VK} {us : List Value} {vs : List V} {fd : FuncData} {ps : List Str} {sp : Sp} {fa : Addr} {ds : List Value} {dvs : List V} {A : Around} (F : FnO X.prog X.w X.K X.mg X.base (L2.CX X.prog X.w) n fa fd ps sp) (hr : Rm n A) (hA : A.frames = X.A.frames) (hb : Binds X.K fd ps ds) (hd : Vals dvs ds)
    (I : Inv X pins σ H s) (r : Vals vs us) (h : sp (vs ++ dvs) H Q (fun _ _ _ => False)) : wpAny (model X.prog X.w) A (call (.ref fa) us) (EP X pins σ Q) X.xe s := by
  have all := r.append hd
  have n : (us ++ ds).length = ps.length := by rw [← all.length]; exact F.len _ _ _ _ h
  have e := I.env0
  have go := F.run A X.stack s H ⟨us, []⟩ (us ++ ds) (vs ++ dvs) Q _ hr ⟨by rw [hA]; exact e.frames, e.mod, e.bs, e.bsz, e.funs, e.frf, e.hok, e.bare⟩ (hb s us I.kIn n) all h
  refine wpAny_call (codeAny_mono go fun r s' hq => ?_)
  match r, hq with
  | .error e, hq => exact (cx_no hq).elim
  | .ok (.ret u), hq => exact I.after hq
  | .ok .next, hq => exact False.elim hq
  | .ok .brk, hq => exact False.elim hq
  | .ok .cont, hq => exact False.elim hq
theorem tyOf_obj {ω : Wd} {H : Hp} {c : Nat} {fs : List (Nat × D)} {v : V} {B : Base} (o : OwnC B.K (B.T.ca c)) (r : Vw B ω H (.obj c fs) v) : TyX B.K H v (.ref (B.T.ca c)) := by
  obtain ⟨a, dx, vs, rfl, h1, h2⟩ := r.obj
  exact .base (.ins h1 o.cl o.ca o.cg o.ct o.ob)
theorem looks_ty {pins : List (Addr × Obj)} {σ : St} {H : Hp} {s : Shared} {v : V} {u t : Value} (I : Inv X pins σ H s) (rx : RelV v u) (ty : TyX X.K H v t) : PySem.W.Looks (model X.prog X.w) s.heap (typeOf u) t := by
  obtain ⟨Pq, Z, p, hx⟩ := kit_of I rx ty
  exact Z.ty _ _ I.kIn p
/-- what is known of an own == -/
structure EqF (X : Cx) (T : Tab) (n : Nat) (c f : Nat) (sp : Sp) : Prop where
  own : OwnC X.K (T.ca c)
  m : Meth X.K (T.ca c) "__eq__" (T.fa f)
  fn : FnF X T n f [] sp
/-- two values, an own == -/
def rOeq (B : Base) (P : Pt) (G : Fns) (n : Bool) : R2 := fun vx vy H Q => ∃ ω st c fs y f r s3, SimSt B ω st H ∧ RelD B ω H (.obj c fs) vx ∧ RelD B ω H y vy ∧ P.eqf c = some f ∧ okEq c y = true ∧ G.call f [.obj c fs, y] st = .ok (.bl r) s3 ∧
  ∀ ω' H', Ext ω H ω' H' → SimSt B ω' s3 H' → Q (.bl (if n then !r else r)) H'
theorem ty_any {B : Base} {ω : Wd} {H : Hp} {c : Nat} {y : D} {v : V} (o : OwnC B.K (B.T.ca c)) (h : okEq c y = true) (r : RelD B ω H y v) : ∃ t, TyX B.K H v t ∧ PySem.W.notFirst B.K (B.T.ca c) t = true := by
  have go : ∀ t, tyD y = some t → ∃ t, TyX B.K H v t ∧ PySem.W.notFirst B.K (B.T.ca c) t = true := fun t ht => ⟨_, tyx_of (.inl r) ht, by
    unfold PySem.W.notFirst
    rw [sub_no (ty_plain ht)]
    simp⟩
  cases y with
  | obj c' gs =>
    have e : c' = c := by simpa [okEq] using h
    subst e
    exact ⟨_, tyOf_obj o (.inl r), by unfold PySem.W.notFirst; simp⟩
  | fn _ => cases h
  | loc _ => cases h
  | _ => exact go _ rfl
theorem op_oeq (neg : Bool) (F : ∀ c f, P.eqf c = some f → EqF X C.T n c f (spF (bs X C) (G.call f))) (hr : Rm (n + 1) X.A) : OpR X (compareOp (if neg then .NotEq else .Eq)) (rOeq (bs X C) P G neg) := by
  intro pins s σ H x y v u Q I rx ry h
  obtain ⟨ω, st, c, fs, yd, f, r, s3, z, r1, r2, he, ho, hc, q⟩ := h
  have E := F c f he
  obtain ⟨fd, ps, ds, F1, hk, hb, hd⟩ := E.fn.ex
  cases r1 with
  | @obj _ _ a dx vs h1 n1 r1 =>
    cases rx
    obtain ⟨mA, J, _⟩ := ins_get I.hok h1
    obtain ⟨od, J, _⟩ := J.look
    obtain ⟨t, ty, hn⟩ := ty_any E.own ho r2
    have L := looks_ty I ry ty
    obtain ⟨m, hF⟩ := I.fr
    have hsp : ∀ Q' : VK, (∀ ω' H', Ext ω H ω' H' → SimSt (bs X C) ω' s3 H' → Q' (.bl r) H') → spF (bs X C) (G.call f) ([V.ref a, y] ++ []) H Q' (fun _ _ _ => False) := fun Q' k => by
      refine ⟨ω, st, [.obj c fs, yd], z, .cons (.obj h1 n1 r1) (.cons r2 .nil), ?_⟩
      rw [hc]
      intro ω' H' e z' v' rv
      cases rv
      exact k ω' H' e z'
    have rv : Vals [V.ref a, y] [Value.ref a, u] := .cons rfl (.cons ry .nil)
    cases hd
    cases neg with
    | false =>
      refine PySem.W.cmp_K (op := .Eq) hr.r.units0 hF I.ok.mod.kin J L hn E.m.at_ E.m.fn ?_
      refine wpAny_mono (run_fnA F1 (hr.mono (Nat.le_succ _)) rfl hb .nil I rv (hsp (fun w H' => w = .bl r ∧ Q (.bl r) H') fun ω' H' e z' => ⟨rfl, q ω' H' e z'⟩)) (fun w s' hw => ?_) fun _ _ x => x
      obtain ⟨w', H', I', rw', e, qq⟩ := hw
      subst e
      cases rw'
      exact ⟨.bl r, H', I', rfl, qq⟩
    | true =>
      have hr1 : Rm n X.A.in1 := ⟨hr.r.in1, hr.g⟩
      refine ne_K (by have := hr.r.un; omega) hF I.ok.mod.kin J L hn E.own E.m.at_ E.m.fn ?_
      refine wpAny_mono (run_fnA (A := X.A.in1) F1 hr1 rfl hb .nil I rv (hsp (fun w H' => w = .bl r ∧ Q (.bl (!r)) H') fun ω' H' e z' => ⟨rfl, q ω' H' e z'⟩)) (fun w s' hw => ?_) fun _ _ x => x
      obtain ⟨w', H', I', rw', e, qq⟩ := hw
      subst e
      cases rw'
      exact ⟨r, rfl, .bl (!r), H', I', rfl, qq⟩
theorem ok_oeq {neg : Bool} (F : ∀ c f, P.eqf c = some f → EqF X C.T n c f (spF (bs X C) (G.call f))) (hr : Rm (n + 1) X.A) (ha : OkE X C P G ia a) (hb : OkE X C P G ib b) (hm : behindInMarks (if neg then .NotEq else .Eq) b = false) :
    OkE X C P G (.oeq neg ia ib) (.Compare a [if neg then .NotEq else .Eq] [b] pos) := by
  refine pe_weak (pe_cmpR (op_oeq neg F hr) ha hb hm) fun σ H Q ⟨ω, env, st, S, q⟩ => ?_
  unfold ev at q
  refine tI.step S q fun x s1 ω1 H1 vx e1 S1 r1 q1 => ?_
  refine tI.step S1 q1 fun y s2 ω2 H2 vy e2 S2 r2 q2 => ?_
  cases x with
  | obj c fs =>
    dsimp only at q2
    cases he : P.eqf c with
    | none => rw [he] at q2; exact q2.elim
    | some f =>
      rw [he] at q2
      dsimp only at q2
      split at q2
      · rename_i ho
        cases hc : G.call f [.obj c fs, y] s2 with
        | stuck => rw [hc] at q2; exact q2.elim
        | exc k gs s3 => rw [hc] at q2; exact q2.elim
        | ok d s3 =>
          rw [hc] at q2
          cases d with
          | bl r =>
            exact ⟨ω2, s2, c, fs, y, f, r, s3, S2.st, r1.keep e2.keep, r2, he, ho, hc, fun ω' H' e z => q2 ω' H' e z _ (.bl _)⟩
          | _ => exact q2.elim
      · exact q2.elim
  | _ => exact q2.elim
theorem okT_oeq {neg : Bool} (F : ∀ c f, P.eqf c = some f → EqF X C.T n c f (spF (bs X C) (G.call f))) (hr : Rm (n + 1) X.A) (ha : OkE X C P G ia a) (hb : OkE X C P G ib b) (hm : behindInMarks (if neg then .NotEq else .Eq) b = false) :
    OkT X C P G (.oeq neg ia ib) (.Compare a [if neg then .NotEq else .Eq] [b] pos) := by
  refine pt_weak (pt_cmpR (op_oeq neg F hr) ha hb hm) fun σ H Q q => ?_
  obtain ⟨ω, env, st, S, q⟩ := tst_val q
  unfold ev at q
  refine tI.step S q fun x s1 ω1 H1 vx e1 S1 r1 q1 => ?_
  refine tI.step S1 q1 fun y s2 ω2 H2 vy e2 S2 r2 q2 => ?_
  cases x with
  | obj c fs =>
    dsimp only at q2
    cases he : P.eqf c with
    | none => rw [he] at q2; exact q2.elim
    | some f =>
      rw [he] at q2
      dsimp only at q2
      split at q2
      · rename_i ho
        cases hc : G.call f [.obj c fs, y] s2 with
        | stuck => rw [hc] at q2; exact q2.elim
        | exc k gs s3 => rw [hc] at q2; exact q2.elim
        | ok d s3 =>
          rw [hc] at q2
          cases d with
          | bl r =>
            exact ⟨ω2, s2, c, fs, y, f, r, s3, S2.st, r1.keep e2.keep, r2, he, ho, hc, fun ω' H' e z => q2 ω' H' e z _ (.bl _)⟩
          | _ => exact q2.elim
      · exact q2.elim
  | _ => exact q2.elim
/-- isinstance of an own class -/
theorem ok_isc (F : ∀ c, P.own c = true → OwnC X.K (C.T.ca c)) (hg : Gl X "isinstance") (hm : X.mg "isinstance" = none) (h : OkW X C P G ie e) (hgx : Gl X x) (hmx : X.mg x = some (.ref (C.T.ca c))) (hdb : (x == ("__debug__" : Str)) = false) (hs : isStar e = false) :
    OkE X C P G (.isc ie c) (.Call (.Name "isinstance" p) [e, .Name x p2] [] pos) := by
  have ht : PE X (.Name x p2) (tC (.ref (C.T.ca c))) := pe_glob hgx hmx rfl hdb
  refine pe_weak (pe_callB call_isi hg hm PyProof.Rows.boot_isinstance (pa_cons h (pa_cons ht pa_nil rfl) (star_cons hs)) (by decide) (by decide) (star_cons hs) rfl) fun σ H Q ⟨ω, env, st, S, q⟩ => ?_
  unfold ev at q
  refine tW.step S q fun d s1 ω1 H1 v e1 S1 r1 q1 => ?_
  split at q1
  · rename_i hown
    have o := F c hown
    have rv := der_vw r1 S1.st
    generalize der s1 d = dd at q1 rv
    have go : ∀ t, tyD dd = some t → Post (bs X C) C.W ω1 H1 σ (R.ok (.bl false) s1) (fun d _ ω' H' => ∀ v, RelD (bs X C) ω' H' d v → Q v H') → rIsi X.K [v, .ref (C.T.ca c)] H1 Q := fun t ht q => by
      exact ⟨v, _, _, _, _, rfl, .own _, tyx_of rv ht, kit_no (ty_plain ht) o, q.here S1.st _ (.bl _)⟩
    cases dd with
    | obj c' gs =>
      dsimp only at q1
      split at q1
      · rename_i e
        subst e
        exact ⟨v, _, _, _, _, rfl, .own _, tyOf_obj o rv, kit_self, q1.here S1.st _ (.bl _)⟩
      · exact q1.elim
    | fn _ => exact q1.elim
    | loc _ => exact q1.elim
    | _ => exact go _ rfl q1
  · exact q1.elim
end
end Iv

set_option Elab.async false
set_option linter.all false
set_option maxRecDepth 100000
set_option maxHeartbeats 4000000
/-! IvWc: enumerate, zip. -/
namespace Iv
open PySem PySem.Spec L2
open PyProof.Rows hiding St
section
variable {B : Base} {ω ω' : Wd} {H H' : Hp} {st : Store}
theorem enmL_get : ∀ (xs : List D) (k i : Nat), (enmL k xs)[i]? = (xs[i]?).map fun d => .tup [.int ((k + i : Nat) : Int), d]
  | [], k, i => by simp [enmL]
  | x :: xs, k, 0 => by simp [enmL]
  | x :: xs, k, i + 1 => by
    rw [enmL, List.getElem?_cons_succ, List.getElem?_cons_succ, enmL_get xs (k + 1) i]
    rw [show k + 1 + i = k + (i + 1) from by omega]
theorem enmL_len : ∀ (xs : List D) (k : Nat), (enmL k xs).length = xs.length
  | [], k => rfl
  | x :: xs, k => by rw [enmL, List.length_cons, List.length_cons, enmL_len xs]
/-- a new pair at T -/
theorem pair_new {T : Addr} {i : Nat} {d : D} {x : V} (z : SimSt B ω st H) (hT : H T = none) (r : RelD B ω H d x) : Ext ω H ω (upd H T (.tup [.int (i : Nat), x])) ∧ SimSt B ω st (upd H T (.tup [.int (i : Nat), x])) ∧ RelD B ω (upd H T (.tup [.int (i : Nat), x])) (.tup [.int (i : Nat), d]) (.ref T) :=
  ⟨.new hT, z.new hT, rel_newT z hT (.cons (.int _) (.cons r .nil))⟩
theorem it_enumL {b : Bool} {a : Addr} {vs : List V} {xs : List D} (sq : ∀ ω' H', KeepO b ω H ω' H' → SqL B.K H' a vs) (r : RelDs B ω H xs vs) : ItOk B b ω H (Ite B.K a) (enmL 0 xs) := by
  refine ⟨fun ω' H' k i hi => ?_, fun ω' H' k => ⟨vs, sq ω' H' k, by rw [enmL_len, r.length]; exact Nat.le_refl _⟩, fun ω' st H' k z i x H2 hi y => ?_⟩
  · rw [enmL_len, r.length] at hi
    exact ⟨vs, vs[i], sq ω' H' k, by simp [hi]⟩
  · obtain ⟨T, x0, rfl, hT, rfl, y⟩ := y
    obtain ⟨d, h1, h2⟩ := r.get' (y vs (sq ω' H' k))
    obtain ⟨g1, g2, g3⟩ := pair_new (i := i) z hT (h2.keep k.1)
    exact ⟨_, by rw [enmL_get, h1, Option.map_some, Nat.zero_add], g1, g2, g3⟩
theorem it_enumT {b : Bool} {a : Addr} {vs : List V} {xs : List D} (h : TupAt B ω H a vs) (r : RelDs B ω H xs vs) : ItOk B b ω H (IteT B.K a) (enmL 0 xs) := by
  refine ⟨fun ω' H' k i hi => ?_, fun ω' H' k => ⟨vs, (h.keep k.1).sq, by rw [enmL_len, r.length]⟩, fun ω' st H' k z i x H2 hi y => ?_⟩
  · rw [enmL_len, r.length] at hi
    exact ⟨vs, vs[i], (h.keep k.1).sq, by simp [hi]⟩
  · obtain ⟨T, x0, rfl, hT, rfl, y⟩ := y
    obtain ⟨d, h1, h2⟩ := r.get' (y vs (h.keep k.1).sq)
    obtain ⟨g1, g2, g3⟩ := pair_new (i := i) z hT (h2.keep k.1)
    exact ⟨_, by rw [enmL_get, h1, Option.map_some, Nat.zero_add], g1, g2, g3⟩
theorem it_enumS {b : Bool} {z : Str} : ItOk B b ω H (IteS z) (enmL 0 (z.cps.toList.map fun c => .str ⟨#[c]⟩)) := by
  have hl : (enmL 0 (z.cps.toList.map fun c => D.str ⟨#[c]⟩)).length = z.cps.size := by rw [enmL_len]; simp
  refine ⟨fun ω' H' k i hi => by rw [hl] at hi; exact hi, fun ω' H' k => by rw [hl]; rfl, fun ω' st H' k zz i x H2 hi y => ?_⟩
  obtain ⟨T, c, rfl, hT, rfl, h1⟩ := y
  obtain ⟨g1, g2, g3⟩ := pair_new (i := i) (d := .str ⟨#[c]⟩) zz hT (.str _)
  refine ⟨_, ?_, g1, g2, g3⟩
  rw [enmL_get, List.getElem?_map, Array.getElem?_toList, h1, Option.map_some, Option.map_some, Nat.zero_add]
theorem zipL_get : ∀ (xs ys : List D) (i : Nat), (zipL xs ys)[i]? = (match xs[i]?, ys[i]? with | some x, some y => some (.tup [x, y]) | _, _ => none)
  | [], ys, i => by simp [zipL]
  | x :: xs, [], i => by cases i <;> simp [zipL] <;> split <;> simp_all
  | x :: xs, y :: ys, 0 => by simp [zipL]
  | x :: xs, y :: ys, i + 1 => by rw [zipL, List.getElem?_cons_succ, List.getElem?_cons_succ, List.getElem?_cons_succ, zipL_get xs ys i]
theorem zipL_len : ∀ (xs ys : List D), (zipL xs ys).length = min xs.length ys.length
  | [], ys => by simp [zipL]
  | x :: xs, [] => by simp [zipL]
  | x :: xs, y :: ys => by rw [zipL, List.length_cons, List.length_cons, List.length_cons, zipL_len xs ys]; omega
theorem pair_new2 {T : Addr} {d e : D} {x y : V} (z : SimSt B ω st H) (hT : H T = none) (r : RelD B ω H d x) (r' : RelD B ω H e y) : Ext ω H ω (upd H T (.tup [x, y])) ∧ SimSt B ω st (upd H T (.tup [x, y])) ∧ RelD B ω (upd H T (.tup [x, y])) (.tup [d, e]) (.ref T) :=
  ⟨.new hT, z.new hT, rel_newT z hT (.cons r (.cons r' .nil))⟩
theorem it_zipL {b : Bool} {a a' : Addr} {vs us : List V} {xs ys : List D} (sq : ∀ ω' H', KeepO b ω H ω' H' → SqL B.K H' a vs) (sq' : ∀ ω' H', KeepO b ω H ω' H' → SqL B.K H' a' us) (r : RelDs B ω H xs vs) (r' : RelDs B ω H ys us) : ItOk B b ω H (Itz B.K a a') (zipL xs ys) := by
  refine ⟨fun ω' H' k i hi => ?_, fun ω' H' k => ⟨vs, us, sq ω' H' k, sq' ω' H' k, by rw [zipL_len, r.length, r'.length]; omega⟩, fun ω' st H' k z i x H2 hi y => ?_⟩
  · rw [zipL_len, r.length, r'.length] at hi
    have h1 : i < vs.length := by omega
    have h2 : i < us.length := by omega
    exact ⟨vs, us, vs[i], us[i], sq ω' H' k, sq' ω' H' k, by simp [h1], by simp [h2]⟩
  · obtain ⟨T, x0, y0, rfl, hT, rfl, y1, y2⟩ := y
    obtain ⟨d, h1, h2⟩ := r.get' (y1 vs (sq ω' H' k))
    obtain ⟨d', h1', h2'⟩ := r'.get' (y2 us (sq' ω' H' k))
    obtain ⟨g1, g2, g3⟩ := pair_new2 z hT (h2.keep k.1) (h2'.keep k.1)
    exact ⟨_, by rw [zipL_get, h1, h1'], g1, g2, g3⟩
theorem it_zipT {b : Bool} {a a' : Addr} {vs us : List V} {xs ys : List D} (h : TupAt B ω H a vs) (h' : TupAt B ω H a' us) (r : RelDs B ω H xs vs) (r' : RelDs B ω H ys us) : ItOk B b ω H (RZ.ItzT B.K a a') (zipL xs ys) := by
  refine ⟨fun ω' H' k i hi => ?_, fun ω' H' k => ⟨vs, us, (h.keep k.1).sq, (h'.keep k.1).sq, by rw [zipL_len, r.length, r'.length]; omega⟩, fun ω' st H' k z i x H2 hi y => ?_⟩
  · rw [zipL_len, r.length, r'.length] at hi
    have h1 : i < vs.length := by omega
    have h2 : i < us.length := by omega
    exact ⟨vs, us, vs[i], us[i], (h.keep k.1).sq, (h'.keep k.1).sq, by simp [h1], by simp [h2]⟩
  · obtain ⟨T, x0, y0, rfl, hT, rfl, y1, y2⟩ := y
    obtain ⟨d, h1, h2⟩ := r.get' (y1 vs (h.keep k.1).sq)
    obtain ⟨d', h1', h2'⟩ := r'.get' (y2 us (h'.keep k.1).sq)
    obtain ⟨g1, g2, g3⟩ := pair_new2 z hT (h2.keep k.1) (h2'.keep k.1)
    exact ⟨_, by rw [zipL_get, h1, h1'], g1, g2, g3⟩
end
section
variable {X : Cx} {C : Cf} {P : Pt} {G : Fns} {a b e tg : Expr} {ia ib ie : Ex} {pos p tpos : Pos} {elts : List Expr} {kk : Nat}
theorem enm_go {bb : Bool} {σ : St} {H : Hp} {Rr : It → Hp → Prop}
    (q : tIt (bs X C) C bb (ev P G C.xh (.enm ie)) σ H Rr) :
    tI (bs X C) C (ev P G C.xh ie) σ H fun v H' => (∃ a xs, v = .ref a ∧ SqL X.K H' a xs ∧ Rr (Ite X.K a) H') ∨ (∃ a xs, v = .ref a ∧ SqT X.K H' a xs ∧ Rr (IteT X.K a) H') ∨ (∃ z, v = .str z ∧ Rr (IteS z) H') := by
  obtain ⟨ω, env, st, S, q⟩ := q
  unfold ev at q
  refine tI.step S q fun d s ω' H' v x S1 r q1 => ?_
  obtain ⟨d', h1, q1⟩ := Post.lift q1
  cases hx : itemsD d with
  | none => rw [hx] at h1; cases h1
  | some xs =>
    rw [hx] at h1
    cases h1
    obtain ⟨ys, h2, k⟩ := q1.here S1.st
    cases h2
    cases d with
    | lst zs =>
      cases hx
      cases r with
      | lst h1 h2 => exact Or.inl ⟨_, _, rfl, h1.sq, k _ (it_enumL (B := bs X C) (fun ω2 H2 k => (h1.keep k.1).sq) h2)⟩
    | tup zs =>
      cases hx
      cases r with
      | tup h1 h2 => exact .inr (.inl ⟨_, _, rfl, h1.sq, k _ (it_enumT h1 h2)⟩)
    | str zs =>
      cases hx
      cases r
      exact .inr (.inr ⟨_, rfl, k _ it_enumS⟩)
    | _ => cases hx
theorem pi_enm {bb : Bool} (hg : Gl X "enumerate") (hm : X.mg "enumerate" = none) (h : OkE X C P G ie e) (hs : isStar e = false) : PI X (.Tuple elts kk tpos) (.Call (.Name "enumerate" p) [e] [] pos) (tIt (bs X C) C bb (ev P G C.xh (.enm ie))) := by
  have s2 : starEach [e] X.env = [(false, eval e X.env)] := star_cons hs
  refine pi_weak (pi_enumA hg hm (pa_cons h pa_nil s2) s2) fun σ H Rr q => ?_
  obtain ⟨ω, env, st, S, z⟩ := enm_go q
  refine ⟨ω, env, st, S, z.imp fun d s ω' H' _ _ k v r => ?_⟩
  rcases k v r with ⟨a, xs, rfl, h1, h2⟩ | ⟨a, xs, rfl, h1, h2⟩ | ⟨z, rfl, h2⟩
  · exact .inl ⟨a, xs, rfl, h1, h2⟩
  · exact .inr (.inl ⟨a, xs, rfl, h1, h2⟩)
  · exact .inr (.inr ⟨z, rfl, h2⟩)
theorem oki_enm (hg : Gl X "enumerate") (hm : X.mg "enumerate" = none) (h : OkE X C P G ie e) (hs : isStar e = false) : OkI X C P G (.Tuple elts kk tpos) (.enm ie) (.Call (.Name "enumerate" p) [e] [] pos) := pi_enm hg hm h hs
theorem okis_enm (hg : Gl X "enumerate") (hm : X.mg "enumerate" = none) (h : OkE X C P G ie e) (hs : isStar e = false) : OkIs X C P G (.Tuple elts kk tpos) (.enm ie) (.Call (.Name "enumerate" p) [e] [] pos) := pi_enm hg hm h hs
theorem zip_go {bb : Bool} {σ : St} {H : Hp} {Rr : It → Hp → Prop}
    (q : tIt (bs X C) C bb (ev P G C.xh (.zip ia ib)) σ H Rr) :
    tI (bs X C) C (ev P G C.xh ia) σ H fun v H1 => tI (bs X C) C (ev P G C.xh ib) σ H1 fun u H' =>
      (∃ a b xs ys, v = .ref a ∧ u = .ref b ∧ ((SqL X.K H' a xs ∧ SqL X.K H' b ys ∧ Rr (Itz X.K a b) H') ∨ (SqT X.K H' a xs ∧ SqT X.K H' b ys ∧ Rr (RZ.ItzT X.K a b) H'))) := by
  obtain ⟨ω, env, st, S, q⟩ := q
  unfold ev at q
  refine tI.step S q fun d s ω1 H1 v x1 S1 r1 q1 => ?_
  refine tI.step S1 q1 fun d' s' ω2 H2 u x2 S2 r2 q2 => ?_
  have r1' := r1.keep x2.keep
  cases d with
  | lst xs =>
    cases d' with
    | lst ys =>
      obtain ⟨zs, h2, k⟩ := q2.here S2.st
      cases h2
      cases r1' with
      | lst h1 h1' =>
        cases r2 with
        | lst h2 h2' => exact ⟨_, _, _, _, rfl, rfl, .inl ⟨h1.sq, h2.sq, k _ (it_zipL (B := bs X C) (fun ω2 H2 k => (h1.keep k.1).sq) (fun ω2 H2 k => (h2.keep k.1).sq) h1' h2')⟩⟩
    | _ => exact q2.elim
  | tup xs =>
    cases d' with
    | tup ys =>
      obtain ⟨zs, h2, k⟩ := q2.here S2.st
      cases h2
      cases r1' with
      | tup h1 h1' =>
        cases r2 with
        | tup h2 h2' => exact ⟨_, _, _, _, rfl, rfl, .inr ⟨h1.sq, h2.sq, k _ (it_zipT h1 h2 h1' h2')⟩⟩
    | _ => exact q2.elim
  | _ => exact q2.elim
theorem pi_zp {bb : Bool} (hg : Gl X "zip") (hm : X.mg "zip" = none) (ha : OkE X C P G ia a) (hb : OkE X C P G ib b) (h1 : isStar a = false) (h2 : isStar b = false) : PI X (.Tuple elts kk tpos) (.Call (.Name "zip" p) [a, b] [] pos) (tIt (bs X C) C bb (ev P G C.xh (.zip ia ib))) := by
  have s2 : starEach [b] X.env = [(false, eval b X.env)] := star_cons h2
  refine pi_weak (RZ.pi_zipA hg hm (pa_cons ha (pa_cons hb pa_nil s2) (star_cons h1)) (star_cons h1) (by rw [s2]; rfl)) fun σ H Rr q => ?_
  obtain ⟨ω, env, st, S, z⟩ := zip_go q
  refine ⟨ω, env, st, S, z.imp fun d s ω' H' _ _ k v r => ?_⟩
  obtain ⟨ω2, env2, st2, S2, z2⟩ := k v r
  refine ⟨ω2, env2, st2, S2, z2.imp fun d s ω' H' _ _ k v r => ?_⟩
  obtain ⟨a, b, xs, ys, rfl, rfl, h⟩ := k v r
  exact ⟨a, b, xs, ys, rfl, h⟩
end
end Iv

set_option Elab.async false
set_option linter.all false
set_option maxRecDepth 100000
set_option maxHeartbeats 4000000
/-! IvJ: statements: steps, blocks, ifs, loops. -/
namespace Iv
open PySem PySem.Spec L2
open PyProof.Rows hiding St

/-- a step of a statement: A: what frames around hold; own things may change -/
structure StepS (A : Addr → Prop) (ω : Wd) (H : Hp) (ω' : Wd) (H' : Hp) : Prop where
  phi : ∀ l a, ω.φ l = some a → ω'.φ l = some a
  at_ : ∀ a o, H a = some o → ¬ ω.cell a → (A a ∨ ¬ ω.O a) → H' a = some o ∧ ¬ ω'.cell a ∧ (¬ ω.O a → ¬ ω'.O a)
/-- a step that changes nothing that stands but cells; new own things may come -/
structure StepN (ω : Wd) (H : Hp) (ω' : Wd) (H' : Hp) : Prop where
  phi : ∀ l a, ω.φ l = some a → ω'.φ l = some a
  O : ∀ a, ω.O a → ω'.O a
  at_ : ∀ a o, H a = some o → ¬ ω.cell a → H' a = some o ∧ ¬ ω'.cell a ∧ (¬ ω.O a → ¬ ω'.O a)
section
variable {A : Addr → Prop} {ω ω1 ω2 ω' : Wd} {H H1 H2 H' : Hp} {B : Base} {C : Cf} {env env' : List Sl} {st st' : Store} {σ : St}
theorem StepS.refl : StepS A ω H ω H := ⟨fun _ _ h => h, fun _ _ h n _ => ⟨h, n, id⟩⟩
theorem StepS.trans (a : StepS A ω H ω1 H1) (b : StepS A ω1 H1 ω2 H2) : StepS A ω H ω2 H2 :=
  ⟨fun l x h => b.phi l x (a.phi l x h), fun x o h n h2 => by
    obtain ⟨g1, g2, g3⟩ := a.at_ x o h n h2
    obtain ⟨k1, k2, k3⟩ := b.at_ x o g1 g2 (h2.imp id g3)
    exact ⟨k1, k2, fun z => k3 (g3 z)⟩⟩
theorem StepN.s (a : StepN ω H ω' H') : StepS A ω H ω' H' := ⟨a.phi, fun x o h n _ => a.at_ x o h n⟩
theorem StepN.refl : StepN ω H ω H := ⟨fun _ _ h => h, fun _ h => h, fun _ _ h n => ⟨h, n, id⟩⟩
theorem StepN.trans (a : StepN ω H ω1 H1) (b : StepN ω1 H1 ω2 H2) : StepN ω H ω2 H2 :=
  ⟨fun l x h => b.phi l x (a.phi l x h), fun x h => b.O x (a.O x h), fun x o h n => by
    obtain ⟨g1, g2, g3⟩ := a.at_ x o h n
    obtain ⟨k1, k2, k3⟩ := b.at_ x o g1 g2
    exact ⟨k1, k2, fun z => k3 (g3 z)⟩⟩
theorem Ext.n (e : Ext ω H ω' H') : StepN ω H ω' H' := ⟨e.phi, fun a h => by rw [e.O]; exact h, fun a o h n => ⟨(e.at_ a o h n).1, (e.at_ a o h n).2, fun z => by rw [e.O]; exact z⟩⟩
theorem StepN.keep (e : StepN ω H ω' H') : Keep ω H ω' H' := ⟨e.phi, fun a o h n => by
  obtain ⟨h1, h2, h3⟩ := e.at_ a o h fun z => n (.inr z)
  exact ⟨h1, fun z => z.elim (h3 fun z => n (.inl z)) h2⟩⟩
theorem StepS.keep (e : StepS A ω H ω' H') : Keep ω H ω' H' := ⟨e.phi, fun a o h n => by
  obtain ⟨h1, h2, h3⟩ := e.at_ a o h (fun z => n (.inr z)) (.inr fun z => n (.inl z))
  exact ⟨h1, fun z => z.elim (h3 fun z => n (.inl z)) h2⟩⟩
/-- in a frame: the frames around hold A -/
structure SimS (B : Base) (C : Cf) (A : Addr → Prop) (ω : Wd) (env : List Sl) (st : Store) (σ : St) (H : Hp) : Prop where
  sim : Sim B C ω env st σ H
  amb : ∀ a, A a → ω.O a
  fr : ∀ (i : Nat) (c : Cell) (a : Addr), env[i]? = some (.ow c) → σ[i]? = some (some (.ref a)) → ¬ A a
theorem SimS.step (S : SimS B C A ω env st σ H) (e : StepN ω H ω' H') (z : SimSt B ω' st' H') : SimS B C A ω' env st' σ H' := by
  refine ⟨⟨S.sim.env.keep e.keep fun a o h ho => ⟨(e.at_ a o h fun ⟨l, hl⟩ => S.sim.st.noO l a hl ho).1, e.O a ho⟩, z, ?_⟩, fun a h => e.O a (S.amb a h), S.fr⟩
  have h := S.sim.xh
  unfold XhOk at h ⊢
  cases hx : C.xh with
  | none => trivial
  | some fs =>
    rw [hx] at h
    exact XhAt.keep h e.keep
def PostS (B : Base) (C : Cf) (A : Addr → Prop) (ω : Wd) (H : Hp) (r : RS) (D : Ends) : Prop := match r with
  | .nx env' st' => ∀ σ' ω' H', StepS A ω H ω' H' → SimS B C A ω' env' st' σ' H' → D.nx σ' H'
  | .rt d st' => ∀ v ω' H', StepS A ω H ω' H' → SimSt B ω' st' H' → (∀ a, A a → ω'.O a) → RelD B ω' H' d v → D.rt v H'
  | .exc c fs env' st' => ∀ σ' ω' H' dx, StepS A ω H ω' H' → SimS B C A ω' env' st' σ' H' → XOk B ω' H' c fs dx → C.W (.ref (B.T.xa c)) dx σ' H'
  | .stuck => False
theorem PostS.mono {r : RS} {D : Ends} (h : PostS B C A ω H r D) (e : StepS A ω H ω1 H1) : PostS B C A ω1 H1 r D := by
  cases r with
  | nx env' st' => exact fun σ' ω' H' x S => h σ' ω' H' (e.trans x) S
  | rt d st' => exact fun v ω' H' x z a r => h v ω' H' (e.trans x) z a r
  | exc c fs env' st' => exact fun σ' ω' H' dx x S a => h σ' ω' H' dx (e.trans x) S a
  | stuck => exact h
theorem PostS.here {D : Ends} (h : PostS B C A ω H (.nx env st) D) (S : SimS B C A ω env st σ H) : D.nx σ H := h σ ω H .refl S
def tS (B : Base) (C : Cf) (f : List Sl → Store → RS) : TS := fun D σ H => ∃ A ω env st, SimS B C A ω env st σ H ∧ PostS B C A ω H (f env st) D
/-- an expression within a statement -/
theorem tI.stepS {g : Ev D} {h : D → Store → RS} {D : Ends} (S : SimS B C A ω env st σ H) (hp : PostS B C A ω H ((g env st).st env h) D) {Q : VK}
    (kk : ∀ a s1 ω1 H1 v, StepN ω H ω1 H1 → SimS B C A ω1 env s1 σ H1 → RelD B ω1 H1 a v → PostS B C A ω1 H1 (h a s1) D → Q v H1) : tI B C g σ H Q := by
  refine ⟨ω, env, st, S.sim, ?_⟩
  cases e : g env st with
  | ok a s1 =>
    rw [e] at hp
    exact fun ω1 H1 e1 z v r => kk a s1 ω1 H1 v e1.n (S.step e1.n z) r (PostS.mono hp e1.n.s)
  | exc c fs s1 =>
    rw [e] at hp
    exact fun ω' H' dx x z a => hp σ ω' H' dx x.n.s (S.step x.n z) a
  | stuck => rw [e] at hp; exact hp
theorem tW.stepS {g : Ev D} {h : D → Store → RS} {D : Ends} (S : SimS B C A ω env st σ H) (hp : PostS B C A ω H ((g env st).st env h) D) {Q : VK}
    (kk : ∀ a s1 ω1 H1 v, StepN ω H ω1 H1 → SimS B C A ω1 env s1 σ H1 → Bw B ω1 H1 a v → PostS B C A ω1 H1 (h a s1) D → Q v H1) : tW B C g σ H Q := by
  refine ⟨ω, env, st, S.sim, ?_⟩
  cases e : g env st with
  | ok a s1 =>
    rw [e] at hp
    exact fun ω1 H1 e1 z v r => kk a s1 ω1 H1 v e1.n (S.step e1.n z) r (PostS.mono hp e1.n.s)
  | exc c fs s1 =>
    rw [e] at hp
    exact fun ω' H' dx x z a => hp σ ω' H' dx x.n.s (S.step x.n z) a
  | stuck => rw [e] at hp; exact hp
theorem tT.stepS {g : Ev Bool} {h : Bool → Store → RS} {D : Ends} (S : SimS B C A ω env st σ H) (hp : PostS B C A ω H ((g env st).st env h) D) {Q : Bool → Hp → Prop}
    (kk : ∀ a s1 ω1 H1, StepN ω H ω1 H1 → SimS B C A ω1 env s1 σ H1 → PostS B C A ω1 H1 (h a s1) D → Q a H1) : tT B C g σ H Q := by
  refine ⟨ω, env, st, S.sim, ?_⟩
  cases e : g env st with
  | ok a s1 =>
    rw [e] at hp
    exact fun ω1 H1 e1 z => kk a s1 ω1 H1 e1.n (S.step e1.n z) (PostS.mono hp e1.n.s)
  | exc c fs s1 =>
    rw [e] at hp
    exact fun ω' H' dx x z a => hp σ ω' H' dx x.n.s (S.step x.n z) a
  | stuck => rw [e] at hp; exact hp
theorem tA.stepS {g : Ev (List D)} {h : List D → Store → RS} {D : Ends} (S : SimS B C A ω env st σ H) (hp : PostS B C A ω H ((g env st).st env h) D) {Q : List V → Hp → Prop}
    (kk : ∀ a s1 ω1 H1 v, StepN ω H ω1 H1 → SimS B C A ω1 env s1 σ H1 → RelDs B ω1 H1 a v → PostS B C A ω1 H1 (h a s1) D → Q v H1) : tA B C g σ H Q := by
  refine ⟨ω, env, st, S.sim, ?_⟩
  cases e : g env st with
  | ok a s1 =>
    rw [e] at hp
    exact fun ω1 H1 e1 z v r => kk a s1 ω1 H1 v e1.n (S.step e1.n z) r (PostS.mono hp e1.n.s)
  | exc c fs s1 =>
    rw [e] at hp
    exact fun ω' H' dx x z a => hp σ ω' H' dx x.n.s (S.step x.n z) a
  | stuck => rw [e] at hp; exact hp
/-- one after another -/
theorem PostS.then {r : RS} {k : List Sl → Store → RS} {D : Ends} (h : PostS B C A ω H (r.then k) D) {b c : St → Hp → Prop} :
    PostS B C A ω H r { D with nx := fun σ' H' => ∃ ω' env' st', StepS A ω H ω' H' ∧ SimS B C A ω' env' st' σ' H' ∧ PostS B C A ω' H' (k env' st') D, bk := b, ct := c } := by
  cases r with
  | nx env' st' => exact fun σ' ω' H' x S => ⟨ω', env', st', x, S, PostS.mono h x⟩
  | rt d st' => exact h
  | exc c fs env' st' => exact h
  | stuck => exact h
theorem liftS_some {α : Type} {o : Option α} {f : α → RS} {D : Ends} (h : PostS B C A ω H (liftS o f) D) : ∃ a, o = some a ∧ PostS B C A ω H (f a) D := by
  cases o with
  | none => exact h.elim
  | some a => exact ⟨a, rfl, h⟩
/-- a slot takes a value -/
theorem SimS.set {i : Nat} {d : D} {v : V} (S : SimS B C A ω env st σ H) (r : RelD B ω H d v) : SimS B C A ω (env.set i (.d d)) st (σ.set i (some v)) H := by
  refine ⟨⟨S.sim.env.set r, S.sim.st, S.sim.xh⟩, S.amb, fun j c a h1 h2 => ?_⟩
  have n : i ≠ j := fun e => by
    subst e
    by_cases hlt : i < env.length
    · rw [List.getElem?_set_self hlt] at h1; cases h1
    · rw [List.getElem?_eq_none (by simpa using hlt)] at h1; cases h1
  rw [List.getElem?_set_ne n] at h1 h2
  exact S.fr j c a h1 h2
theorem SimS.clr {i : Nat} (o : Option V) (S : SimS B C A ω env st σ H) : SimS B C A ω (env.set i .no) st (σ.set i o) H := by
  refine ⟨⟨S.sim.env.clr o, S.sim.st, S.sim.xh⟩, S.amb, fun j c a h1 h2 => ?_⟩
  have n : i ≠ j := fun e => by
    subst e
    by_cases hlt : i < env.length
    · rw [List.getElem?_set_self hlt] at h1; cases h1
    · rw [List.getElem?_eq_none (by simpa using hlt)] at h1; cases h1
  rw [List.getElem?_set_ne n] at h1 h2
  exact S.fr j c a h1 h2
/-- a slot takes a thing of its own -/
theorem SimS.setOw {i : Nat} {c : Cell} {a : Addr} (S : SimS B C A ω env st σ H) (r : CellAt B ω H a c) (ho : ω.O a) (na : ¬ A a) (ne : ∀ (j : Nat) (c' : Cell), env[j]? = some (.ow c') → σ[j]? ≠ some (some (.ref a))) (h0 : i ≠ 0) :
    SimS B C A ω (env.set i (.ow c)) st (σ.set i (some (.ref a))) H := by
  have lt : ∀ {j : Nat} {x : Sl}, (env.set i (.ow c))[j]? = some x → i = j → i < env.length := fun {j x} h e => by
    subst e
    by_cases hlt : i < env.length
    · exact hlt
    · rw [List.getElem?_eq_none (by simpa using hlt)] at h; cases h
  have ls := S.sim.env.len
  refine ⟨⟨⟨by simpa using ls, fun j x h => ?_, fun j x h => ?_, fun j k x y b h1 h2 h3 h4 => ?_, fun j h => ?_⟩, S.sim.st, S.sim.xh⟩, S.amb, fun j x b h1 h2 => ?_⟩
  · by_cases hj : i = j
    · have hlt := lt h hj
      subst hj
      rw [List.getElem?_set_self hlt] at h; cases h
    · rw [List.getElem?_set_ne hj] at h ⊢
      exact S.sim.env.val j x h
  · by_cases hj : i = j
    · have hlt := lt h hj
      subst hj
      rw [List.getElem?_set_self hlt] at h; cases h
      exact ⟨a, by rw [List.getElem?_set_self (by rw [← ls]; exact hlt)], r, ho, fun z => absurd z h0⟩
    · rw [List.getElem?_set_ne hj] at h ⊢
      exact S.sim.env.own j x h
  · by_cases hj : i = j
    · have hlt := lt h1 hj
      subst hj
      by_cases hk : i = k
      · exact hk
      · rw [List.getElem?_set_ne hk] at h2 h4
        rw [List.getElem?_set_self (by rw [← ls]; exact hlt)] at h3
        cases h3
        exact absurd h4 (ne k y h2)
    · by_cases hk : i = k
      · have hlt := lt h2 hk
        subst hk
        rw [List.getElem?_set_ne hj] at h1 h3
        rw [List.getElem?_set_self (by rw [← ls]; exact hlt)] at h4
        cases h4
        exact absurd h3 (ne j x h1)
      · rw [List.getElem?_set_ne hj] at h1 h3
        rw [List.getElem?_set_ne hk] at h2 h4
        exact S.sim.env.ne j k x y b h1 h2 h3 h4
  · by_cases hj : i = j
    · have hlt := lt h hj
      subst hj
      rw [List.getElem?_set_self hlt] at h; cases h
    · rw [List.getElem?_set_ne hj] at h ⊢
      exact S.sim.env.xcp j h
  · by_cases hj : i = j
    · have hlt := lt h1 hj
      subst hj
      rw [List.getElem?_set_self (by rw [← ls]; exact hlt)] at h2
      cases h2
      exact na
    · rw [List.getElem?_set_ne hj] at h1 h2
      exact S.fr j x b h1 h2
end

section
variable {X : Cx} {C : Cf} {P : Pt} {G : Fns} {sup : Nat → Nat → Option Bool} {xf : Nat → List Nat}
abbrev OkS (X : Cx) (C : Cf) (P : Pt) (G : Fns) (sup : Nat → Nat → Option Bool) (xf : Nat → List Nat) (i : Sm) (s : Stmt) : Prop := PS X s (tS (bs X C) C (ex P G sup xf C.xh i))
abbrev OkSs (X : Cx) (C : Cf) (P : Pt) (G : Fns) (sup : Nat → Nat → Option Bool) (xf : Nat → List Nat) (i : List Sm) (s : List Stmt) : Prop := PSs X s (tS (bs X C) C (exs P G sup xf C.xh i))
variable {is : List Sm} {i : Sm} {ss : List Stmt} {s : Stmt} {pos p : Pos} {e t : Expr} {ie it : Ex}
theorem oks_nil : OkSs X C P G sup xf [] [] := pss_weak pss_nil fun D σ H ⟨A, ω, env, st, S, q⟩ => by unfold exs at q; exact q.here S
theorem oks_cons (h : OkS X C P G sup xf i s) (hs : OkSs X C P G sup xf is ss) : OkSs X C P G sup xf (i :: is) (s :: ss) := by
  refine pss_weak (pss_cons h hs) fun D σ H ⟨A, ω, env, st, S, q⟩ => ?_
  unfold exs at q
  refine ⟨A, ω, env, st, S, ?_⟩
  have q' := PostS.then (b := D.bk) (c := D.ct) q
  revert q'
  cases ex P G sup xf C.xh i env st with
  | nx env' st' => exact fun q' σ' ω' H' x S' => let ⟨ω2, e2, s2, x2, S2, q2⟩ := q' σ' ω' H' x S'; ⟨A, ω2, e2, s2, S2, q2⟩
  | rt d st' => exact fun q' => q'
  | exc c fs env' st' => exact fun q' => q'
  | stuck => exact fun q' => q'
/-- a step of the language alone: what a frame held alone is let be as it is -/
theorem oks_frz {n : Nat} (hs : OkSs X C P G sup xf is ss) : OkSs X C P G sup xf (.frz n :: is) ss := by
  refine pss_weak hs fun D σ H ⟨A, ω, env, st, S, q⟩ => ?_
  unfold exs at q
  have q' := PostS.then (b := D.bk) (c := D.ct) q
  unfold ex at q'
  split at q'
  · rename_i c hc
    split at q'
    · exact q'.elim
    · rename_i h0
      obtain ⟨a, h1, h2, h3, h4⟩ := S.sim.env.own n c hc
      have na := S.fr n c a hc h1
      have kp : Keep ω H { ω with O := fun b => ω.O b ∧ b ≠ a } H := Keep.less fun b h => h.1
      have z2 : SimSt (bs X C) { ω with O := fun b => ω.O b ∧ b ≠ a } st H := S.sim.st.less fun b h => h.1
      have xs : StepS A ω H { ω with O := fun b => ω.O b ∧ b ≠ a } H := ⟨fun _ _ h => h, fun b o h n _ => ⟨h, n, fun z w => z w.1⟩⟩
      have rel : RelD (bs X C) { ω with O := fun b => ω.O b ∧ b ≠ a } H c.toD (.ref a) := by
        have nL : ¬ Wd.L { ω with O := fun b => ω.O b ∧ b ≠ a } a := fun z => by
          rcases z with z | ⟨l, z⟩
          · exact z.2 rfl
          · exact S.sim.st.noO l a z h3
        have h2' := h2.keep kp fun o q => q
        cases c with
        | lst ys => obtain ⟨vs, g1, g2⟩ := h2'; exact .lst (.inl ⟨.inl g1, nL⟩) g2
        | ins k fs => obtain ⟨dx, vs, g1, g2⟩ := h2'; exact .obj g1 nL g2
      have hx : XhOk (bs X C) { ω with O := fun b => ω.O b ∧ b ≠ a } H C := by
        have h := S.sim.xh
        unfold XhOk at h ⊢
        cases hx : C.xh with
        | none => trivial
        | some fs =>
          rw [hx] at h
          exact XhAt.keep h kp
      have nlt : n < env.length := by
        by_cases hlt : n < env.length
        · exact hlt
        · rw [List.getElem?_eq_none (by omega)] at hc; cases hc
      have vv : ∀ (j : Nat) (x : Sl), (env.set n (.d c.toD))[j]? = some x → (n = j ∧ x = .d c.toD) ∨ (n ≠ j ∧ env[j]? = some x) := fun j x h => by
        by_cases e : n = j
        · subst e
          rw [List.getElem?_set_self nlt] at h
          cases h; exact .inl ⟨rfl, rfl⟩
        · rw [List.getElem?_set_ne e] at h
          exact .inr ⟨e, h⟩
      have S2 : SimS (bs X C) C A { ω with O := fun b => ω.O b ∧ b ≠ a } (env.set n (.d c.toD)) st σ H := by
        refine ⟨⟨⟨by simpa using S.sim.env.len, fun j d h => ?_, fun j d h => ?_, fun j k x y b g1 g2 g3 g4 => ?_, fun j h => ?_⟩, z2, hx⟩, fun b h => ⟨S.amb b h, fun e => na (by rw [← e]; exact h)⟩, fun j x b g1 g2 => ?_⟩
        · rcases vv j _ h with ⟨rfl, e⟩ | ⟨_, h⟩
          · cases e; exact ⟨_, h1, rel⟩
          · obtain ⟨v, g1, g2⟩ := S.sim.env.val j d h
            exact ⟨v, g1, g2.keep kp⟩
        · rcases vv j _ h with ⟨_, e⟩ | ⟨ne, h⟩
          · cases e
          · obtain ⟨b, g1, g2, g3, g4⟩ := S.sim.env.own j d h
            exact ⟨b, g1, g2.keep kp fun o q => q, ⟨g3, fun e => ne (S.sim.env.ne n j c d a hc h h1 (by rw [g1, e]))⟩, g4⟩
        · rcases vv j _ g1 with ⟨_, e⟩ | ⟨_, g1⟩
          · cases e
          · rcases vv k _ g2 with ⟨_, e⟩ | ⟨_, g2⟩
            · cases e
            · exact S.sim.env.ne j k x y b g1 g2 g3 g4
        · rcases vv j _ h with ⟨_, e⟩ | ⟨_, h⟩
          · cases e
          · exact S.sim.env.xcp j h
        · rcases vv j _ g1 with ⟨_, e⟩ | ⟨_, g1⟩
          · cases e
          · exact S.fr j x b g1 g2
      obtain ⟨ω3, e3, s3, x3, S3, q3⟩ := q' σ _ H xs S2
      exact ⟨A, ω3, e3, s3, S3, q3⟩
  · exact q'.elim
theorem ok_pass : OkS X C P G sup xf .pass (.Pass pos) := ps_weak ps_pass fun D σ H ⟨A, ω, env, st, S, q⟩ => by unfold ex at q; exact q.here S
theorem ok_exp (h : OkE X C P G ie e) (hs : swapsWith e none pos.line X.env = pure false) : OkS X C P G sup xf (.exp ie) (.Expr e pos) := by
  refine ps_weak (ps_expr h hs) fun D σ H ⟨A, ω, env, st, S, q⟩ => ?_
  unfold ex at q
  exact tI.stepS S q fun a s1 ω1 H1 v x S1 r q1 => q1.here S1
theorem ok_retN : OkS X C P G sup xf .retN (.Return none pos) := by
  refine ps_weak ps_retN fun D σ H ⟨A, ω, env, st, S, q⟩ => ?_
  unfold ex at q
  exact q _ ω H .refl S.sim.st S.amb .non
theorem ok_ret (h : OkE X C P G ie e) (hv : ∀ i, ie = .var i → PE X e (tVar i)) : OkS X C P G sup xf (.ret ie) (.Return (some e) pos) := by
  have plain : ∀ {D : Ends} {σ : St} {H : Hp} {A : Addr → Prop} {ω : Wd} {env : List Sl} {st : Store}, SimS (bs X C) C A ω env st σ H → PostS (bs X C) C A ω H ((ev P G C.xh ie env st).st env fun x s => .rt x s) D → tRet (tI (bs X C) C (ev P G C.xh ie)) D σ H :=
    fun {D σ H A ω env st} S q => tI.stepS S q fun d s1 ω1 H1 v x S1 r q1 => q1 v ω1 H1 .refl S1.sim.st S1.amb r
  cases ie with
  | var n =>
    refine ps_weak (ps_ret (pe_orr (hv n rfl) h)) fun D σ H ⟨A, ω, env, st, S, q⟩ => ?_
    unfold ex at q
    dsimp only [brw] at q
    cases hc : env[n]? with
    | none => rw [hc] at q; exact .inr (plain S q)
    | some s =>
      rw [hc] at q
      cases s with
      | no => exact .inr (plain S q)
      | xc => exact .inr (plain S q)
      | d x => exact .inr (plain S q)
      | ow c =>
        obtain ⟨a, h1, h2, h3, h4⟩ := S.sim.env.own n c hc
        have na := S.fr n c a hc h1
        have nL : ¬ Wd.L { ω with O := fun b => ω.O b ∧ b ≠ a } a := fun z => by
          rcases z with z | ⟨l, z⟩
          · exact z.2 rfl
          · exact S.sim.st.noO l a z h3
        have h2' := h2.keep (Keep.less (O' := fun b => ω.O b ∧ b ≠ a) fun b h => h.1) fun o q => q
        refine .inl ⟨_, h1, q _ { ω with O := fun b => ω.O b ∧ b ≠ a } H ⟨fun _ _ h => h, fun b o h n _ => ⟨h, n, fun z w => z w.1⟩⟩ (S.sim.st.less fun b h => h.1) (fun b h => ⟨S.amb b h, fun e => na (by rw [← e]; exact h)⟩) ?_⟩
        cases c with
        | lst ys => obtain ⟨vs, g1, g2⟩ := h2'; exact .lst (.inl ⟨.inl g1, nL⟩) g2
        | ins k fs => obtain ⟨dx, vs, g1, g2⟩ := h2'; exact .obj g1 nL g2
  | _ => exact ps_weak (ps_ret h) fun D σ H ⟨A, ω, env, st, S, q⟩ => plain S (by unfold ex at q; exact q)
theorem ok_iff {a b : List Stmt} {ia ib : List Sm} (hc : OkT X C P G it t) (ha : OkSs X C P G sup xf ia a) (hb : OkSs X C P G sup xf ib b) : OkS X C P G sup xf (.iff it ia ib) (.If t a b pos) := by
  refine ps_weak (ps_if hc ha hb) fun D σ H ⟨A, ω, env, st, S, q⟩ => ?_
  unfold ex at q
  refine tT.stepS (g := fun env st => tst (ev P G C.xh it env st)) S q fun c s1 ω1 H1 x S1 q1 => ?_
  cases c with
  | true => rw [if_pos rfl] at q1 ⊢; exact ⟨A, ω1, env, s1, S1, q1⟩
  | false => rw [if_neg Bool.false_ne_true] at q1 ⊢; exact ⟨A, ω1, env, s1, S1, q1⟩
/-- a block, its wants told by PostS -/
theorem tS_of {f : List Sl → Store → RS} {A : Addr → Prop} {ω : Wd} {env : List Sl} {st : Store} {σ : St} {H : Hp} {k : List Sl → Store → RS} {D : Ends} {N b c : St → Hp → Prop} (S : SimS (bs X C) C A ω env st σ H) (q : PostS (bs X C) C A ω H ((f env st).then k) D)
    (hN : ∀ σ' H' ω' env' st', StepS A ω H ω' H' → SimS (bs X C) C A ω' env' st' σ' H' → PostS (bs X C) C A ω' H' (k env' st') D → N σ' H') : tS (bs X C) C f { D with nx := N, ct := c, bk := b } σ H := by
  refine ⟨A, ω, env, st, S, ?_⟩
  have q' := PostS.then (b := b) (c := c) q
  revert q'
  cases f env st with
  | nx env' st' => exact fun q' σ' ω' H' x S' => let ⟨ω2, e2, s2, x2, S2, q2⟩ := q' σ' ω' H' x S'; hN σ' H' ω2 e2 s2 x2 S2 q2
  | rt d st' => exact fun q' => q'
  | exc c fs env' st' => exact fun q' => q'
  | stuck => exact fun q' => q'
theorem ok_whl {b : List Stmt} {ib : List Sm} (hp : PassesOwn (model X.prog X.w) X.A X.env X.xe) (hc : OkT X C P G it t) (hb : OkSs X C P G sup xf ib b) : OkS X C P G sup xf (.whl it ib) (.While t b [] pos) := by
  refine ps_weak (ps_while hp hc hb) fun D σ H ⟨A, ω, env, st, S, q⟩ => ?_
  unfold ex at q
  refine ⟨fun m σ H => ∃ ω env st, SimS (bs X C) C A ω env st σ H ∧ PostS (bs X C) C A ω H (loopW (fun env st => tst (ev P G C.xh it env st)) (fun env st => exs P G sup xf C.xh ib env st) m env st) D, ⟨_, ω, env, st, S, q⟩, ?_⟩
  rintro m σ H ⟨ω, env, st, S, q⟩
  cases m with
  | zero => unfold loopW at q; exact q.elim
  | succ m =>
    unfold loopW at q
    refine tT.stepS (g := fun env st => tst (ev P G C.xh it env st)) S q fun c s1 ω1 H1 x S1 q1 => ?_
    dsimp only at q1 ⊢
    cases c with
    | false => rw [if_neg Bool.false_ne_true] at q1 ⊢; exact q1.here S1
    | true =>
      rw [if_pos rfl] at q1 ⊢
      refine ⟨fun σ' H' => ∃ ω env st, SimS (bs X C) C A ω env st σ' H' ∧ PostS (bs X C) C A ω H' (loopW (fun env st => tst (ev P G C.xh it env st)) (fun env st => exs P G sup xf C.xh ib env st) m env st) D, fun σ' H' h => ⟨m, Nat.lt_succ_self _, h⟩, ?_⟩
      exact tS_of S1 q1 fun σ' H' ω' env' st' x' S' q' => ⟨ω', env', st', S', q'⟩
theorem ok_for {tg : Expr} {iter : Expr} {b : List Stmt} {ib : List Sm} {t : Tg} (hp : PassesOwn (model X.prog X.w) X.A X.env X.xe) (hc : X.calm = true) (hi : OkIs X C P G tg ie iter) (hg : PG X tg (gT X.K t)) (hb : OkSs X C P G sup xf ib b)
    (hs : ∀ x, foldedSetIterable iter X.env x = pure x) : OkS X C P G sup xf (.for_ t ie ib) (.For tg iter b [] pos) := by
  refine ps_weak (ps_for hp hc hi hg hb hs) fun D σ H ⟨A, ω, env, st, S, q⟩ => ?_
  unfold ex at q
  refine ⟨ω, env, st, S.sim, ?_⟩
  cases e : ev P G C.xh ie env st with
  | stuck => rw [e] at q; exact q.elim
  | exc c fs s => rw [e] at q; exact fun ω' H' dx x z a => q σ ω' H' dx x.n.s (S.step x.n z) a
  | ok d s1 =>
    rw [e] at q
    intro ω1 H1 e1 z1
    have S1 := S.step e1.n z1
    have q1 := PostS.mono q e1.n.s
    obtain ⟨xs, hx, q1⟩ := liftS_some (o := itemsD d) q1
    refine ⟨xs, hx, fun J hJ => ?_⟩
    refine ⟨fun i m σ H => m = xs.length - i ∧ i ≤ xs.length ∧ ∃ ω env st, SimS (bs X C) C A ω env st σ H ∧ StepS A ω1 H1 ω H ∧
      PostS (bs X C) C A ω H (loopF (fun y e s => liftS (asgT t y e) fun e2 => exs P G sup xf C.xh ib e2 s) (xs.drop i) env st) D, ⟨_, rfl, Nat.zero_le _, ω1, env, s1, S1, .refl, by rw [List.drop_zero]; exact q1⟩, ?_⟩
    rintro i m σ2 H2 ⟨rfl, hi, ω2, env2, st2, S2, x2, q2⟩
    have kO : KeepO false ω1 H1 ω2 H2 := ⟨x2.keep, fun z => nomatch z⟩
    by_cases hlt : i < xs.length
    · refine .inr ⟨hJ.go ω2 H2 kO i hlt, fun σ' H' => i + 1 ≤ xs.length ∧ ∃ ω env st, SimS (bs X C) C A ω env st σ' H' ∧ StepS A ω1 H1 ω H' ∧
        PostS (bs X C) C A ω H' (loopF (fun y e s => liftS (asgT t y e) fun e2 => exs P G sup xf C.xh ib e2 s) (xs.drop (i + 1)) env st) D, fun σ' H' h => ⟨_, by omega, rfl, h⟩, fun x H3 y => ?_⟩
      obtain ⟨d', hd, x3, z3, r3⟩ := hJ.yld ω2 st2 H2 kO S2.sim.st i x H3 hlt y
      have edrop : xs.drop i = d' :: xs.drop (i + 1) := by
        rw [List.drop_eq_getElem_cons hlt]
        have : xs[i] = d' := by
          rw [List.getElem?_eq_getElem hlt] at hd
          exact Option.some.inj hd
        rw [this]
      rw [edrop] at q2
      unfold loopF at q2
      have S3 := S2.step x3.n z3
      cases ea : asgT t d' env2 with
      | none => rw [ea] at q2; exact q2.elim
      | some env3 =>
        rw [ea] at q2
        replace q2 := PostS.mono q2 x3.n.s
        refine gT_ok (B := bs X C) ea S3.sim.env r3 fun σ4 sE4 _ ho => ?_
        have S4 : SimS (bs X C) C A ω2 env3 st2 σ4 H3 := ⟨⟨sE4, z3, S3.sim.xh⟩, S3.amb, fun j c a h1 h2 => by
          obtain ⟨g1, g2⟩ := ho j c h1
          exact S3.fr j c a g1 (by rw [← g2]; exact h2)⟩
        exact tS_of S4 q2 fun σ' H' ω' env' st' x' S' q' => ⟨hlt, ω', env', st', S', (x2.trans x3.n.s).trans x', q'⟩
    · have ei : i = xs.length := by omega
      subst ei
      refine .inl ⟨hJ.stop ω2 H2 kO, ?_⟩
      rw [List.drop_length] at q2
      unfold loopF at q2
      exact q2.here S2
end
end Iv

set_option Elab.async false
set_option linter.all false
set_option maxRecDepth 100000
set_option maxHeartbeats 4000000
/-! IvK: assignments, changes of lists and fields. -/
namespace Iv
open PySem PySem.Spec L2
open PyProof.Rows hiding St

section
variable {X : Cx} {C : Cf} {P : Pt} {G : Fns} {sup : Nat → Nat → Option Bool} {xf : Nat → List Nat} {A : Addr → Prop} {ω ω' : Wd} {H H' : Hp} {env env' : List Sl} {st : Store} {σ : St}
/-- a target takes a value -/
theorem asg_go {t : Tg} {d : D} {v : V} {D : Ends} (S : SimS (bs X C) C A ω env st σ H) (r : RelD (bs X C) ω H d v) (q : PostS (bs X C) C A ω H (liftS (asgT t d env) fun env2 => .nx env2 st) D) : gT X.K t v σ H D.nx := by
  obtain ⟨env2, ea, q⟩ := liftS_some q
  refine gT_ok (B := bs X C) ea S.sim.env r fun σ4 sE4 _ ho => ?_
  exact q.here ⟨⟨sE4, S.sim.st, S.sim.xh⟩, S.amb, fun j c a h1 h2 => by
    obtain ⟨g1, g2⟩ := ho j c h1
    exact S.fr j c a g1 (by rw [← g2]; exact h2)⟩
theorem ok_asg {t : Tg} {tg e : Expr} {ie : Ex} {pos : Pos} (he : OkE X C P G ie e) (hg : PG X tg (gT X.K t)) (hs : swapsWithSole [tg] e pos.line X.env = pure false) (hw : swappedStores [tg] e X.env = pure none)
    (h1 : (assignEach [tg] X.env).map (·.2) = [assign tg X.env]) : OkS X C P G sup xf (.asg t ie) (.Assign [tg] e pos) := by
  refine ps_weak (ps_asg he hg hs hw h1) fun D σ H ⟨A, ω, env, st, S, q⟩ => ?_
  unfold ex at q
  exact tI.stepS S q fun a s1 ω1 H1 v x S1 r q1 => asg_go S1 r q1

/-! ### own things -/
/-- a value for a slot: H0: ahead -/
def RelM (B : Base) (H0 : Hp) (ω : Wd) (H : Hp) : Sl → V → Prop
  | .no, _ => False
  | .xc, _ => False
  | .d x, v => RelD B ω H x v
  | .ow c, v => ∃ a, v = .ref a ∧ CellAt B ω H a c ∧ ω.O a ∧ H0 a = none
structure RelMs (B : Base) (H0 : Hp) (ω : Wd) (H : Hp) (ss : List Sl) (vs : List V) : Prop where
  rel : Paired (RelM B H0 ω H) ss vs
  ne : ∀ (i j : Nat) (c e : Cell) (v : V), ss[i]? = some (.ow c) → ss[j]? = some (.ow e) → vs[i]? = some v → vs[j]? = some v → i = j
theorem RelM.step {B : Base} {H0 : Hp} {s : Sl} {v : V} (r : RelM B H0 ω H s v) (x : StepN ω H ω' H') (z : SimSt B ω st H) : RelM B H0 ω' H' s v := by
  cases s with
  | no => exact r
  | xc => exact r
  | d d => exact RelD.keep (show RelD B ω H d v from r) x.keep
  | ow c =>
    obtain ⟨a, h1, h2, h3, h4⟩ := r
    exact ⟨a, h1, h2.keep x.keep fun o q => (x.at_ a o q fun ⟨l, hl⟩ => z.noO l a hl h3).1, x.O a h3, h4⟩
theorem tracked_on {B : Base} {st' : Store} (x : StepN ω H ω' H') (z : SimSt B ω st H) (z' : SimSt B ω' st' H') {a : Addr} (h : H' a = none) : H a = none := by
  cases e : H a with
  | none => rfl
  | some o =>
    by_cases hc : ω.cell a
    · obtain ⟨l, hl⟩ := hc
      have hl' := x.phi l a hl
      have lt := z'.dom l a hl'
      obtain ⟨b, g1, g2⟩ := z'.cells l (st'[l]'lt) (by simp [lt])
      rw [hl'] at g1; cases g1
      obtain ⟨u, hu⟩ := g2.some
      rw [h] at hu; cases hu
    · have := (x.at_ a o e hc).1
      rw [h] at this; cases this
theorem Paired.get? {α β : Type} {F : α → β → Prop} : ∀ {l₁ : List α} {l₂ : List β} {i : Nat} {a : α}, Paired F l₁ l₂ → l₁[i]? = some a → ∃ b, l₂[i]? = some b ∧ F a b
  | _, _, _, _, .nil, e => by simp at e
  | _, _, 0, _, .cons r _, e => by simp at e; subst e; exact ⟨_, rfl, r⟩
  | _, _, i + 1, _, .cons _ t, e => by simpa using Paired.get? (i := i) t (by simpa using e)
/-- slots take their values, one after another -/
theorem setAllS_ok {B : Base} {H0 : Hp} {Q : St → Hp → Prop} : ∀ {is : List Nat} {ss : List Sl} {vs : List V} {env env' : List Sl} {σ : St}, setAllS env is ss = some env' → SimS B C A ω env st σ H →
    Paired (RelM B H0 ω H) ss vs → (∀ a, A a → H0 a ≠ none) → (∀ (i j : Nat) (c e : Cell) (v : V), ss[i]? = some (.ow c) → ss[j]? = some (.ow e) → vs[i]? = some v → vs[j]? = some v → i = j) →
    (∀ (i j : Nat) (c e : Cell) (v : V), ss[i]? = some (.ow c) → vs[i]? = some v → env[j]? = some (.ow e) → σ[j]? ≠ some (some v)) →
    (∀ σ', SimS B C A ω env' st σ' H → σ' = (is.zip vs).foldl (fun s p => s.set p.1 (some p.2)) σ → Q σ' H) → gNames is vs σ H Q
  | [], [], _, env, env', σ, h, S, r, na, n1, n2, k => by
    cases r
    simp only [setAllS, Option.some.injEq] at h; subst h
    exact ⟨rfl, k σ S rfl⟩
  | i :: is, s :: ss, _, env, env', σ, h, S, r, na, n1, n2, k => by
    cases r with
    | @cons _ v _ vs r t =>
      simp only [setAllS] at h
      split at h
      · rename_i hok
        cases hset : setSl env i s with
        | none => rw [hset] at h; cases h
        | some env2 =>
          rw [hset, Option.bind_some] at h
          have e2 := setSl_ok hset
          have hlt : i < env.length := by
            unfold setSl at hset
            split at hset
            · assumption
            · cases hset
          clear hset
          subst e2
          have S2 : SimS B C A ω (env.set i s) st (σ.set i (some v)) H := by
            cases s with
            | no => exact r.elim
            | xc => exact r.elim
            | d d => exact S.set r
            | ow c =>
              obtain ⟨a, h1, h2, h3, h4⟩ := r
              subst h1
              refine S.setOw h2 h3 (fun z => na a z h4) (fun j c' hj => n2 0 j c c' _ rfl rfl hj) ?_
              intro z; subst z; cases hok
          refine ⟨v, vs, rfl, setAllS_ok h S2 t na (fun j j' c e v g1 g2 g3 g4 => ?_) (fun j j' c cc w g1 g2 g3 => ?_) fun σ' S' e' => k σ' S' e'⟩
          · have := n1 (j + 1) (j' + 1) c e v (by simpa using g1) (by simpa using g2) (by simpa using g3) (by simpa using g4)
            omega
          · by_cases hj : i = j'
            · subst hj
              rw [List.getElem?_set_self hlt] at g3
              cases g3
              rw [List.getElem?_set_self (by rw [← S.sim.env.len]; exact hlt)]
              intro z
              have z' : v = w := Option.some.inj (Option.some.inj z)
              subst z'
              have := n1 0 (j + 1) cc c v rfl (by simpa using g1) rfl (by simpa using g2)
              omega
            · rw [List.getElem?_set_ne hj] at g3 ⊢
              exact n2 (j + 1) j' c cc w (by simpa using g1) (by simpa using g2) g3
      · cases h
  | [], _ :: _, _, _, _, _, h, _, _, _, _, _, _ => by simp [setAllS] at h
  | _ :: _, [], _, _, _, _, h, _, _, _, _, _, _ => by simp [setAllS] at h
def PostM (B : Base) (C : Cf) (A : Addr → Prop) (ω : Wd) (H : Hp) (σ : St) (env : List Sl) (r : R (List Sl)) (Q : List V → Hp → Prop) : Prop := match r with
  | .ok ss st' => ∀ ω' H' vs, StepN ω H ω' H' → SimS B C A ω' env st' σ H' → RelMs B H ω' H' ss vs → Q vs H'
  | .exc c fs st' => ∀ ω' H' dx, StepN ω H ω' H' → SimS B C A ω' env st' σ H' → XOk B ω' H' c fs dx → C.W (.ref (B.T.xa c)) dx σ H'
  | .stuck => False
def tM (B : Base) (C : Cf) (f : Ev (List Sl)) : TA := fun σ H Q => ∃ A ω env st, SimS B C A ω env st σ H ∧ PostM B C A ω H σ env (f env st) Q
/-- what one value leaves -/
def PostN (B : Base) (C : Cf) (A : Addr → Prop) (ω : Wd) (H : Hp) (σ : St) (env : List Sl) (r : R Sl) (Q : V → Hp → Prop) : Prop := match r with
  | .ok s st' => ∀ ω' H' v, StepN ω H ω' H' → SimS B C A ω' env st' σ H' → RelM B H ω' H' s v → Q v H'
  | .exc c fs st' => ∀ ω' H' dx, StepN ω H ω' H' → SimS B C A ω' env st' σ H' → XOk B ω' H' c fs dx → C.W (.ref (B.T.xa c)) dx σ H'
  | .stuck => False
def tM1 (B : Base) (C : Cf) (f : Ev Sl) : TE := fun σ H Q => ∃ A ω env st, SimS B C A ω env st σ H ∧ PostN B C A ω H σ env (f env st) Q
abbrev OkM1 (X : Cx) (C : Cf) (P : Pt) (G : Fns) (b : Bool) (i : Ex) (e : Expr) : Prop := PE X e (tM1 (bs X C) C (evm1 P G C.xh b i))
abbrev OkM (X : Cx) (C : Cf) (P : Pt) (G : Fns) (is : List (Bool × Ex)) (es : List Expr) : Prop := PA X es (tM (bs X C) C (evm P G C.xh is))
variable {e : Expr} {es : List Expr} {ie : Ex} {im : List (Bool × Ex)} {pos p : Pos}
theorem m1_go {f : Ev D} {Q : VK} (q : tM1 (bs X C) C (fun env st => (f env st).bind fun d s => lift (toSl false d) s) σ H Q) : tI (bs X C) C f σ H Q := by
  obtain ⟨A, ω, env, st, S, q⟩ := q
  refine ⟨ω, env, st, S.sim, ?_⟩
  dsimp only at q
  cases e : f env st with
  | stuck => rw [e] at q; exact q.elim
  | exc c fs s => rw [e] at q; exact fun ω' H' dx x z a => q ω' H' dx x.n (S.step x.n z) a
  | ok d s => rw [e] at q; exact fun ω' H' x z v r => q ω' H' v x.n (S.step x.n z) r
theorem ok_m1v (h : OkE X C P G ie e) : OkM1 X C P G false ie e := pe_weak h fun σ H Q q => m1_go q
theorem m1_own {f : Ev D} {Q : VK} (q : tM1 (bs X C) C (fun env st => (f env st).bind fun d s => lift (toSl true d) s) σ H Q) : tF (bs X C) C f σ H Q := by
  obtain ⟨A, ω, env, st, S, q⟩ := q
  refine ⟨ω, env, st, S.sim, ?_⟩
  dsimp only at q
  cases e : f env st with
  | stuck => rw [e] at q; exact q.elim
  | exc c fs s => rw [e] at q; exact fun ω' H' dx x z a => q ω' H' dx x.n (S.step x.n z) a
  | ok d s =>
    rw [e] at q
    cases d with
    | lst xs =>
      intro ω' H' x z
      refine ⟨xs, rfl, fun p vs hp r => ?_⟩
      have x2 : StepN ω' H' { ω' with O := fun a => ω'.O a ∨ a = p } (upd H' p (.lst vs)) := ⟨fun _ _ h => h, fun a h => .inl h, fun a o ha n => by
        have ne := ne_of_none ha hp
        exact ⟨by rw [upd_ne ne]; exact ha, n, fun h z => z.elim h ne⟩⟩
      refine q { ω' with O := fun a => ω'.O a ∨ a = p } _ _ (x.n.trans x2) ((S.step x.n z).step x2 (z.more hp)) ⟨p, rfl, ⟨vs, upd_same, r.keep x2.keep⟩, .inr rfl, tracked_on x.n S.sim.st z hp⟩
    | _ => exact q.elim
theorem ok_m1o (h : OkF X C P G ie e) : OkM1 X C P G true ie e := pe_weak h fun σ H Q q => m1_own q
theorem okm_nil : OkM X C P G [] [] := pa_weak pa_nil fun σ H Q ⟨A, ω, env, st, S, q⟩ => q ω H [] .refl S ⟨.nil, fun i j c e v h => by simp at h⟩
theorem okm_cons {b : Bool} (he : OkM1 X C P G b ie e) (hs : OkM X C P G im es) (hst : isStar e = false) : OkM X C P G ((b, ie) :: im) (e :: es) := by
  refine pa_weak (pa_cons he hs (star_cons hst)) fun σ H Q ⟨A, ω, env, st, S, q⟩ => ?_
  refine ⟨A, ω, env, st, S, ?_⟩
  simp only [evm] at q
  cases e1 : evm1 P G C.xh b ie env st with
  | stuck => rw [e1] at q; exact q.elim
  | exc c fs s => rw [e1] at q; exact q
  | ok s st1 =>
    rw [e1] at q
    intro ω1 H1 v x1 S1 r1
    refine ⟨A, ω1, env, st1, S1, ?_⟩
    dsimp only [R.bind] at q
    cases e2 : evm P G C.xh im env st1 with
    | stuck => rw [e2] at q; exact q.elim
    | exc c fs s => rw [e2] at q; exact fun ω' H' dx x S' a => q ω' H' dx (x1.trans x) S' a
    | ok ss st2 =>
      rw [e2] at q
      intro ω2 H2 vs x2 S2 r2
      have r1' := r1.step x2 S1.sim.st
      refine q ω2 H2 (v :: vs) (x1.trans x2) S2 ⟨.cons r1' (L2.Paired.mapP r2.rel fun s v h => ?_), fun i j c d w g1 g2 g3 g4 => ?_⟩
      · cases s with
        | no => exact h
        | xc => exact h
        | d _ => exact h
        | ow c =>
          obtain ⟨a, h1, h2, h3, h4⟩ := h
          exact ⟨a, h1, h2, h3, tracked_on x1 S.sim.st S1.sim.st h4⟩
      · have key : ∀ (j : Nat) (c d : Cell) (w : V), s = .ow c → ss[j]? = some (.ow d) → v = w → vs[j]? = some w → False := by
          clear g1 g2 g3 g4
          intro j c d w f1 f2 f3 f4
          rw [f1] at r1
          obtain ⟨a, h1, h2, h3, h4⟩ := r1
          obtain ⟨u, hu⟩ := h2.some
          obtain ⟨b', k1, k2⟩ := Paired.get? r2.rel f2
          rw [f4] at k1
          cases k1
          rw [← f3] at k2
          obtain ⟨a2, k3, _, _, k6⟩ := k2
          rw [h1] at k3
          cases k3
          rw [k6] at hu; cases hu
        cases i with
        | zero => cases j with
          | zero => rfl
          | succ j => exact (key j c d w (by simpa using g1) (by simpa using g2) (by simpa using g3) (by simpa using g4)).elim
        | succ i => cases j with
          | zero => exact (key i d c w (by simpa using g2) (by simpa using g1) (by simpa using g4) (by simpa using g3)).elim
          | succ j => rw [r2.ne i j c d w (by simpa using g1) (by simpa using g2) (by simpa using g3) (by simpa using g4)]
/-- what the sets need, from RelMs -/
theorem RelMs.sets {H2 : Hp} {ω2 : Wd} {ss : List Sl} {vs : List V} {D : Ends} {is : List Nat} {st2 : Store} (S : SimS (bs X C) C A ω env st σ H) (x : StepN ω H ω2 H2) (S2 : SimS (bs X C) C A ω2 env st2 σ H2) (r : RelMs (bs X C) H ω2 H2 ss vs)
    (q : PostS (bs X C) C A ω2 H2 (liftS (setAllS env is ss) fun env2 => .nx env2 st2) D) : gNames is vs σ H2 fun σ' H' => D.nx σ' H' ∧ σ' = (is.zip vs).foldl (fun s p => s.set p.1 (some p.2)) σ := by
  obtain ⟨env2, ea, q⟩ := liftS_some q
  refine setAllS_ok (H0 := H) ea S2 r.rel (fun a h z => ?_) r.ne (fun i j c e v g1 g2 g3 z => ?_) fun σ' S' e => ⟨q.here S', e⟩
  · have := S.sim.st.trO a (S.amb a h)
    rw [z] at this; cases this
  · obtain ⟨v', h1, h2⟩ := Paired.get? r.rel g1
    rw [g2] at h1; cases h1
    obtain ⟨a, e1, _, _, e4⟩ := h2
    subst e1
    obtain ⟨b, k1, k2, _⟩ := S.sim.env.own j e g3
    rw [k1] at z
    cases z
    obtain ⟨o, ho⟩ := k2.some
    rw [e4] at ho; cases ho
theorem gNames_pick {Q : St → Hp → Prop} : ∀ {is : List Nat} {vs : List V} {σ : St}, gNames is vs σ H Q → Q ((is.zip vs).foldl (fun s p => s.set p.1 (some p.2)) σ) H
  | [], vs, σ, h => by obtain ⟨rfl, h⟩ := h; exact h
  | i :: is, vs, σ, h => by obtain ⟨v, r, rfl, h⟩ := h; exact gNames_pick (is := is) h
theorem setAllS_len : ∀ {is : List Nat} {ss : List Sl} {env env' : List Sl}, setAllS env is ss = some env' → ss.length = is.length
  | [], [], _, _, _ => rfl
  | i :: is, s :: ss, env, env', h => by
    simp only [setAllS] at h
    split at h
    · cases e : setSl env i s with
      | none => rw [e] at h; cases h
      | some env2 =>
        rw [e, Option.bind_some] at h
        rw [List.length_cons, List.length_cons, setAllS_len h]
    · cases h
  | [], _ :: _, _, _, h => by simp [setAllS] at h
  | _ :: _, [], _, _, h => by simp [setAllS] at h
/-- a, b, .. = x, y, .. by whatever road -/
theorem mas_go {is : List Nat} {tr : TS} (hm : ∀ D σ H, tM (bs X C) C (evm P G C.xh im) σ H (fun vs H1 => gNames is vs σ H1 D.nx ∧ vs.length = is.length ∧ ∀ p, H1 p = none → gNames is vs σ (upd H1 p (.tup vs)) D.nx) → tr D σ H) (D : Ends) (σ : St) (H : Hp)
    (q : tS (bs X C) C (ex P G sup xf C.xh (.mas is im)) D σ H) : tr D σ H := by
  obtain ⟨A, ω, env, st, S, q⟩ := q
  unfold ex at q
  refine hm D σ H ⟨A, ω, env, st, S, ?_⟩
  cases e1 : evm P G C.xh im env st with
  | stuck => rw [e1] at q; exact q.elim
  | exc c fs s => rw [e1] at q; exact fun ω' H' dx x S' a => q σ ω' H' dx x.s S' a
  | ok ss st1 =>
    rw [e1] at q
    intro ω1 H1 vs x1 S1 r1
    have q1 := PostS.mono q x1.s
    obtain ⟨env2, ea, _⟩ := liftS_some q1
    have hl : vs.length = is.length := by rw [← r1.rel.length]; exact setAllS_len ea
    have mono : ∀ {is : List Nat} {vs : List V} {σ : St} {H : Hp} {Q Q' : St → Hp → Prop}, (∀ σ H, Q σ H → Q' σ H) → gNames is vs σ H Q → gNames is vs σ H Q' := by
      intro is
      induction is with
      | nil => intro vs σ H Q Q' f h; exact ⟨h.1, f _ _ h.2⟩
      | cons i is ih => intro vs σ H Q Q' f h; obtain ⟨v, r, e, h⟩ := h; exact ⟨v, r, e, ih f h⟩
    refine ⟨mono (fun _ _ h => h.1) (r1.sets S x1 S1 q1), hl, fun p hp => ?_⟩
    have x2 : StepN ω1 H1 ω1 (upd H1 p (.tup vs)) := (Ext.new hp).n
    exact mono (fun _ _ h => h.1) (RelMs.sets (vs := vs) S (x1.trans x2) (S1.step x2 (S1.sim.st.new hp)) ⟨L2.Paired.mapP r1.rel fun s v h => h.step x2 S1.sim.st, r1.ne⟩ (PostS.mono q1 x2.s))
theorem ok_mas {is : List Nat} {ts : List Expr} {tpos vpos : Pos} {k k2 : Nat} (hm : OkM X C P G im es) (hg : PG X (.Tuple ts k tpos) (gT X.K (.tp is))) (hs : swapsWithSole [.Tuple ts k tpos] (.Tuple es k2 vpos) pos.line X.env = pure false)
    (hw : swappedStores [.Tuple ts k tpos] (.Tuple es k2 vpos) X.env = pure none) (hl : fits es.length = true) (hl2 : is.length = es.length) : OkS X C P G sup xf (.mas is im) (.Assign [.Tuple ts k tpos] (.Tuple es k2 vpos) pos) := by
  refine ps_weak (ps_asg (pe_tup hm) hg hs hw rfl) (mas_go fun D σ H q => ?_)
  obtain ⟨A, ω, env, st, S, q⟩ := q
  refine ⟨A, ω, env, st, S, ?_⟩
  revert q
  cases evm P G C.xh im env st with
  | stuck => exact fun q => q
  | exc c fs s => exact fun q => q
  | ok ss st1 =>
      intro q ω1 H1 vs x1 S1 r1
      obtain ⟨_, h2, h3⟩ := q ω1 H1 vs x1 S1 r1
      exact ⟨by rw [h2, hl2]; exact fits_le hl, fun p hp => ⟨p, vs, rfl, .of upd_same, h2, h3 p hp⟩⟩
theorem ok_par {i j : Nat} {x y : Str} {a b : Expr} {px py pt : Pos} {kt k2 pt2} (hc : X.calm = true) (hN : X.N.Nodup) (hi : X.N[i]? = some x) (hj : X.N[j]? = some y) (hij : i ≠ j)
    (hx : X.env.scope.names.lookup x = some .local) (hy : X.env.scope.names.lookup y = some .local) (hm : OkM X C P G im [a, b])
    (hw : swappedStores [.Tuple [.Name x px, .Name y py] kt pt] (.Tuple [a, b] k2 pt2) X.env = pure (some [x, y]))
    (hs : swapsWithSole [.Tuple [.Name x px, .Name y py] kt pt] (.Tuple [a, b] k2 pt2) pos.line X.env = pure false) : OkS X C P G sup xf (.mas [i, j] im) (.Assign [.Tuple [.Name x px, .Name y py] kt pt] (.Tuple [a, b] k2 pt2) pos) := by
  refine ps_weak (ps_par hc hN hi hj hij hx hy hm hw hs) (mas_go fun D σ H q => ?_)
  obtain ⟨A, ω, env, st, S, q⟩ := q
  refine ⟨A, ω, env, st, S, ?_⟩
  revert q
  cases evm P G C.xh im env st with
  | stuck => exact fun q => q
  | exc c fs s => exact fun q => q
  | ok ss st1 =>
      intro q ω1 H1 vs x1 S1 r1
      obtain ⟨⟨v, _, rfl, w, _, rfl, rfl, h⟩, _⟩ := q ω1 H1 vs x1 S1 r1
      exact ⟨v, w, rfl, h⟩
theorem ok_par3 {i j l : Nat} {x y z : Str} {a b c : Expr} {px py pz pt : Pos} {kt k2 pt2} (hc : X.calm = true) (hN : X.N.Nodup) (hi : X.N[i]? = some x) (hj : X.N[j]? = some y) (hl : X.N[l]? = some z) (hij : i ≠ j) (hil : i ≠ l) (hjl : j ≠ l)
    (hx : X.env.scope.names.lookup x = some .local) (hy : X.env.scope.names.lookup y = some .local) (hz : X.env.scope.names.lookup z = some .local) (hm : OkM X C P G im [a, b, c])
    (hw : swappedStores [.Tuple [.Name x px, .Name y py, .Name z pz] kt pt] (.Tuple [a, b, c] k2 pt2) X.env = pure (some [x, y, z]))
    (hs : swapsWithSole [.Tuple [.Name x px, .Name y py, .Name z pz] kt pt] (.Tuple [a, b, c] k2 pt2) pos.line X.env = pure false) : OkS X C P G sup xf (.mas [i, j, l] im) (.Assign [.Tuple [.Name x px, .Name y py, .Name z pz] kt pt] (.Tuple [a, b, c] k2 pt2) pos) := by
  refine ps_weak (ps_par3 hc hN hi hj hl hij hil hjl hx hy hz hm hw hs) (mas_go fun D σ H q => ?_)
  obtain ⟨A, ω, env, st, S, q⟩ := q
  refine ⟨A, ω, env, st, S, ?_⟩
  revert q
  cases evm P G C.xh im env st with
  | stuck => exact fun q => q
  | exc c fs s => exact fun q => q
  | ok ss st1 =>
      intro q ω1 H1 vs x1 S1 r1
      obtain ⟨⟨v, _, rfl, w, _, rfl, u, _, rfl, rfl, h⟩, _⟩ := q ω1 H1 vs x1 S1 r1
      exact ⟨v, w, u, rfl, h⟩
/-- x = a new list, held alone; h: the store of a new list into slot i -/
theorem ok_own {i : Nat} {s : Stmt} (h : PS X s (tAsg (tF (bs X C) C (ev P G C.xh ie)) (gName i))) : OkS X C P G sup xf (.own i ie) s := by
  refine ps_weak h fun D σ H ⟨A, ω, env, st, S, q⟩ => ?_
  unfold ex at q
  refine m1_own (f := ev P G C.xh ie) ⟨A, ω, env, st, S, ?_⟩
  have q' : PostS (bs X C) C A ω H ((evm1 P G C.xh true ie env st).st env fun x s => liftS (setAllS env [i] [x]) fun env2 => .nx env2 s) D := q
  show PostN (bs X C) C A ω H σ env (evm1 P G C.xh true ie env st) _
  cases e1 : evm1 P G C.xh true ie env st with
  | stuck => rw [e1] at q'; exact q'.elim
  | exc c fs s => rw [e1] at q'; exact fun ω' H' dx x S' a => q' σ ω' H' dx x.s S' a
  | ok s st1 =>
    rw [e1] at q'
    intro ω1 H1 v x1 S1 r1
    have q1 := PostS.mono q' x1.s
    obtain ⟨w, r, e, h, h2⟩ := RelMs.sets (is := [i]) (ss := [s]) (vs := [v]) (D := D) S x1 S1 ⟨.cons r1 .nil, fun a b c d w g1 g2 g3 g4 => by
      have e1 : a < 1 := by rw [List.getElem?_eq_some_iff] at g1; exact g1.1
      have e2 : b < 1 := by rw [List.getElem?_eq_some_iff] at g2; exact g2.1
      omega⟩ q1
    cases e
    exact h2.1
theorem ok_asgF {i : Nat} {s : Stmt} (hl : ∀ env st d s, ev P G C.xh ie env st = .ok d s → ∃ xs, d = .lst xs) (h : PS X s (tAsg (tF (bs X C) C (ev P G C.xh ie)) (gName i))) : OkS X C P G sup xf (.asg (.nm i) ie) s := by
  refine ps_weak h fun D σ H ⟨A, ω, env, st, S, q⟩ => ?_
  unfold ex at q
  refine ⟨ω, env, st, S.sim, ?_⟩
  cases e : ev P G C.xh ie env st with
  | stuck => rw [e] at q; exact q.elim
  | exc c fs s => rw [e] at q; exact fun ω' H' dx x z a => q σ ω' H' dx x.n.s (S.step x.n z) a
  | ok d s =>
    rw [e] at q
    intro ω' H' x z
    obtain ⟨xs, rfl⟩ := hl _ _ _ _ e
    refine ⟨xs, rfl, fun p vs hp r => ?_⟩
    have x2 := x.trans (Ext.new (o := HO.lst vs) hp)
    exact asg_go (t := .nm i) (S.step x2.n (z.new hp)) (rel_newL z hp r) (PostS.mono q x2.n.s)
/-- x = a new list, in the store -/
theorem ok_new {i : Nat} {s : Stmt} (h : PS X s (tAsg (tF (bs X C) C (ev P G C.xh ie)) (gName i))) : OkS X C P G sup xf (.new i ie) s := by
  refine ps_weak h fun D σ H ⟨A, ω, env, st, S, q⟩ => ?_
  unfold ex at q
  refine ⟨ω, env, st, S.sim, ?_⟩
  cases e : ev P G C.xh ie env st with
  | stuck => rw [e] at q; exact q.elim
  | exc c fs s => rw [e] at q; exact fun ω' H' dx x z a => q σ ω' H' dx x.n.s (S.step x.n z) a
  | ok d s =>
    rw [e] at q
    intro ω1 H1 x1 z1
    cases d with
    | lst xs =>
      refine ⟨xs, rfl, fun p vs hp r => ?_⟩
      have S1 := S.step x1.n z1
      have q1 := PostS.mono q x1.n.s
      obtain ⟨c, ec, q1⟩ := liftS_some (o := Iv.D.toCell (.lst xs)) (f := fun c => liftS (setSl env i (.d (.loc s.length))) fun env2 => .nx env2 (s ++ [c])) q1
      cases ec
      have nst : ∀ a, ω1.φ s.length ≠ some a := fun a z => absurd (z1.dom _ _ z) (Nat.lt_irrefl _)
      let ω2 : Wd := { ω1 with φ := fun l => if l = s.length then some p else ω1.φ l }
      have x2 : StepN ω1 H1 ω2 (upd H1 p (.lst vs)) := by
        refine ⟨fun l a h => ?_, fun a h => h, fun a o ha n => ?_⟩
        · show (if l = s.length then some p else ω1.φ l) = some a
          rw [if_neg (fun e => nst a (by rw [← e]; exact h))]; exact h
        · have ne := ne_of_none ha hp
          refine ⟨by rw [upd_ne ne]; exact ha, fun ⟨l, hl⟩ => ?_, id⟩
          have hl' : (if l = s.length then some p else ω1.φ l) = some a := hl
          split at hl'
          · exact ne (Option.some.inj hl').symm
          · exact n ⟨l, hl'⟩
      have z2 : SimSt (bs X C) ω2 (s ++ [.lst xs]) (upd H1 p (.lst vs)) := by
        refine ⟨fun l c hl => ?_, fun l a hl => ?_, fun l m a h1 h2 => ?_, fun l a hl => ?_, fun a ha => ?_⟩
        · by_cases e : l = s.length
          · subst e
            rw [List.getElem?_append_right (Nat.le_refl _), Nat.sub_self] at hl
            cases hl
            exact ⟨p, if_pos rfl, vs, upd_same, r.keep x2.keep⟩
          · have hlt : l < s.length := by
              have := (List.getElem?_eq_some_iff.mp hl).1
              rw [List.length_append, List.length_singleton] at this
              omega
            rw [List.getElem?_append_left hlt] at hl
            obtain ⟨a, g1, g2⟩ := z1.cells l c hl
            obtain ⟨o, ho⟩ := g2.some
            exact ⟨a, (if_neg e).trans g1, g2.keep x2.keep fun u hu => by rw [upd_ne (ne_of_none hu hp)]; exact hu⟩
        · have hl' : (if l = s.length then some p else ω1.φ l) = some a := hl
          rw [List.length_append, List.length_singleton]
          split at hl'
          · omega
          · have := z1.dom l a hl'; omega
        · have old : ∀ {l a}, ω1.φ l = some a → a ≠ p := fun {l a} h => by
            have lt := z1.dom l a h
            obtain ⟨b, g1, g2⟩ := z1.cells l (s[l]'lt) (by simp [lt])
            rw [h] at g1; cases g1
            obtain ⟨o, ho⟩ := g2.some
            exact ne_of_none ho hp
          have h1' : (if l = s.length then some p else ω1.φ l) = some a := h1
          have h2' : (if m = s.length then some p else ω1.φ m) = some a := h2
          split at h1'
          · split at h2'
            · omega
            · cases h1'; exact absurd rfl (old h2')
          · split at h2'
            · cases h2'; exact absurd rfl (old h1')
            · exact z1.inj l m a h1' h2'
        · have hl' : (if l = s.length then some p else ω1.φ l) = some a := hl
          split at hl'
          · cases hl'
            intro z
            have := z1.trO p z
            rw [hp] at this; cases this
          · exact z1.noO l a hl'
        · have := z1.trO a ha
          obtain ⟨o, ho⟩ := Option.isSome_iff_exists.mp this
          rw [upd_ne (ne_of_none ho hp), ho]; rfl
      have S2 := S1.step x2 z2
      have q2 := PostS.mono q1 x2.s
      have q3 : PostS (bs X C) C A ω2 (upd H1 p (.lst vs)) (liftS (asgT (.nm i) (.loc s.length) env) fun env2 => .nx env2 (s ++ [.lst xs])) D := q2
      exact asg_go (t := .nm i) S2 (.loc (if_pos rfl)) q3
    | _ => 
      exact (by
        have : PostS (bs X C) C A ω H RS.stuck D := q
        exact this.elim)

/-! ### changes -/
def HoOf (B : Base) (ω : Wd) (H : Hp) : Cell → HO → Prop
  | .lst xs, .lst vs => RelDs B ω H xs vs
  | .ins c fs, .ins Ca dx vs => Ca = B.T.ca c ∧ RelFs B ω H fs vs
  | _, _ => False
theorem HoOf.at {B : Base} {c : Cell} {o : HO} {a : Addr} (h : HoOf B ω H c o) (k : Keep ω H ω (upd H a o)) : CellAt B ω (upd H a o) a c := by
  cases c with
  | lst xs => cases o with
    | lst vs => exact ⟨vs, upd_same, RelDs.keep (show RelDs B ω H xs vs from h) k⟩
    | _ => exact h.elim
  | ins c fs => cases o with
    | ins Ca dx vs =>
      obtain ⟨h1, h2⟩ := h
      subst h1
      exact ⟨dx, vs, upd_same, h2.keep k⟩
    | _ => exact h.elim
/-- the slot's list is changed -/
theorem chg_ok {i : Nat} {f : Cell → Option Cell} {D : Ends} (S : SimS (bs X C) C A ω env st σ H) (q : PostS (bs X C) C A ω H (chg env st i f) D) :
    ∃ a c c', σ[i]? = some (some (.ref a)) ∧ CellAt (bs X C) ω H a c ∧ f c = some c' ∧ ∀ o', HoOf (bs X C) ω H c' o' → D.nx σ (upd H a o') := by
  unfold chg at q
  split at q
  · rename_i c hc
    obtain ⟨c', hf, q⟩ := liftS_some q
    obtain ⟨a, h1, h2, h3, h4⟩ := S.sim.env.own i c hc
    refine ⟨a, c, c', h1, h2, hf, fun o' ho => ?_⟩
    have na := S.fr i c a hc h1
    have k : Keep ω H ω (upd H a o') := Keep.own h3
    have ilt : i < env.length := by
      by_cases hlt : i < env.length
      · exact hlt
      · rw [List.getElem?_eq_none (by omega)] at hc; cases hc
    have vv : ∀ {j : Nat} {x : Sl}, (env.set i (.ow c'))[j]? = some x → (i = j ∧ x = .ow c') ∨ (i ≠ j ∧ env[j]? = some x) := fun {j x} h => by
      by_cases e : i = j
      · subst e
        rw [List.getElem?_set_self ilt] at h
        cases h; exact .inl ⟨rfl, rfl⟩
      · rw [List.getElem?_set_ne e] at h
        exact .inr ⟨e, h⟩
    have xs : StepS A ω H ω (upd H a o') := ⟨fun _ _ h => h, fun b o hb n hA => ⟨by
      rw [upd_ne (fun e => by subst e; exact hA.elim na fun z => z h3)]; exact hb, n, id⟩⟩
    have hx : XhOk (bs X C) ω (upd H a o') C := by
      have h := S.sim.xh
      unfold XhOk at h ⊢
      cases hx : C.xh with
      | none => trivial
      | some fs =>
        rw [hx] at h
        exact XhAt.keep h k
    refine q σ ω (upd H a o') xs ⟨⟨⟨by simpa using S.sim.env.len, fun j d h => ?_, fun j d h => ?_, fun j l x y b g1 g2 g3 g4 => ?_, fun j h => ?_⟩, S.sim.st.own h3, hx⟩, S.amb, fun j x b g1 g2 => ?_⟩
    · rcases vv h with ⟨_, e⟩ | ⟨_, h⟩
      · cases e
      · obtain ⟨v, g1, g2⟩ := S.sim.env.val j d h
        exact ⟨v, g1, g2.keep k⟩
    · rcases vv h with ⟨rfl, e⟩ | ⟨ne, h⟩
      · cases e
        exact ⟨a, h1, ho.at k, h3, h4⟩
      · obtain ⟨b, g1, g2, g3, g4⟩ := S.sim.env.own j d h
        have nb : b ≠ a := fun e => ne (S.sim.env.ne i j c d a hc h h1 (by rw [g1, e]))
        exact ⟨b, g1, g2.keep k fun o q => by rw [upd_ne nb]; exact q, g3, g4⟩
    · have pj : ∃ x', env[j]? = some (.ow x') := by
        rcases vv g1 with ⟨rfl, _⟩ | ⟨_, g1⟩
        · exact ⟨c, hc⟩
        · exact ⟨x, g1⟩
      have pl : ∃ x', env[l]? = some (.ow x') := by
        rcases vv g2 with ⟨rfl, _⟩ | ⟨_, g2⟩
        · exact ⟨c, hc⟩
        · exact ⟨y, g2⟩
      obtain ⟨x', pj⟩ := pj
      obtain ⟨y', pl⟩ := pl
      exact S.sim.env.ne j l x' y' b pj pl g3 g4
    · rcases vv h with ⟨_, e⟩ | ⟨_, h⟩
      · cases e
      · exact S.sim.env.xcp j h
    · rcases vv g1 with ⟨rfl, _⟩ | ⟨_, g1⟩
      · exact S.fr _ c b hc g2
      · exact S.fr j x b g1 g2
  · rename_i l hl
    split at q
    · rename_i c hc
      obtain ⟨c', hf, q⟩ := liftS_some q
      obtain ⟨v, h1, h2⟩ := S.sim.env.val i _ hl
      cases h2 with
      | @loc _ a hφ =>
        obtain ⟨b, g1, g2⟩ := S.sim.st.cells l c hc
        rw [hφ] at g1; cases g1
        refine ⟨a, c, c', h1, g2, hf, fun o' ho => ?_⟩
        have nO := S.sim.st.noO l a hφ
        have k : Keep ω H ω (upd H a o') := ⟨fun _ _ h => h, fun b u hb n => ⟨by rw [upd_ne (fun e => n (.inr ⟨l, by rw [e]; exact hφ⟩))]; exact hb, n⟩⟩
        have xs : StepS A ω H ω (upd H a o') := ⟨fun _ _ h => h, fun b o hb n hA => ⟨by
          rw [upd_ne (fun e => n ⟨l, by rw [e]; exact hφ⟩)]; exact hb, n, id⟩⟩
        have hx : XhOk (bs X C) ω (upd H a o') C := by
          have h := S.sim.xh
          unfold XhOk at h ⊢
          cases hx : C.xh with
          | none => trivial
          | some fs =>
            rw [hx] at h
            exact XhAt.keep h k
        have lt := S.sim.st.dom l a hφ
        have z2 : SimSt (bs X C) ω (st.set l c') (upd H a o') := by
          refine ⟨fun m d hm => ?_, fun m b hm => by rw [List.length_set]; exact S.sim.st.dom m b hm, S.sim.st.inj, S.sim.st.noO, fun b hb => ?_⟩
          · by_cases e : l = m
            · subst e
              rw [List.getElem?_set_self lt] at hm
              cases hm
              exact ⟨a, hφ, ho.at k⟩
            · rw [List.getElem?_set_ne e] at hm
              obtain ⟨b, k1, k2⟩ := S.sim.st.cells m d hm
              have nb : b ≠ a := fun z => e (S.sim.st.inj l m a hφ (by rw [← z]; exact k1))
              exact ⟨b, k1, k2.keep k fun o q => by rw [upd_ne nb]; exact q⟩
          · have nb : b ≠ a := fun z => nO (by rw [← z]; exact hb)
            rw [upd_ne nb]; exact S.sim.st.trO b hb
        refine q σ ω (upd H a o') xs ⟨⟨S.sim.env.keep k fun b o hb hO => ⟨by
          rw [upd_ne (fun e => nO (by rw [← e]; exact hO))]; exact hb, hO⟩, z2, hx⟩, S.amb, S.fr⟩
    · exact q.elim
  · exact q.elim
theorem plainM {o : Expr} {x : Str} {p : Pos} : notSuper (.Name x p) = true := rfl
theorem bm_few {es : List Expr} {cpos : Pos} {env : Env} (h : es.all (fun e => !isStar e) = true) (hn : es.length < 20) : ((backTo cpos (starEach es env)).all (fun x => !x.1) && (backToKw cpos (keywordEach [] env)).all (fun x => x.1.isSome)
      && decide (es.length + ([] : List Keyword).length + (if ([] : List Keyword).isEmpty then 0 else 1) < 30)) = true := by
  rw [star_plain h]
  have a1 : (backTo cpos (es.map fun e => (false, eval e env))).all (fun x => !x.1) = true := by
    unfold backTo
    rw [List.map_map, List.all_map, List.all_eq_true]
    intro e _
    rfl
  rw [a1]
  simp [backToKw, keywordEach]
  omega
theorem slL_ok {i : Nat} {u : Unit} (S : SimS (bs X C) C A ω env st σ H) (h : slL env st i = some u) : ∃ a vs, σ[i]? = some (some (.ref a)) ∧ H a = some (.lst vs) := by
  unfold slL at h
  split at h
  · rename_i c hc
    obtain ⟨a, h1, ⟨vs, h2, _⟩, _⟩ := S.sim.env.own i _ hc
    exact ⟨a, vs, h1, h2⟩
  · rename_i l hl
    split at h
    · rename_i xs hc
      obtain ⟨v, h1, h2⟩ := S.sim.env.val i _ hl
      cases h2 with
      | @loc _ a hφ =>
        obtain ⟨b, g1, vs, g2, _⟩ := S.sim.st.cells l _ hc
        rw [hφ] at g1; cases g1
        exact ⟨a, vs, h1, g2⟩
    · cases h
  · cases h
theorem cell_lst {B : Base} {a : Addr} {c : Cell} {vs : List V} (h : CellAt B ω H a c) (e : H a = some (.lst vs)) : ∃ xs, c = .lst xs ∧ RelDs B ω H xs vs := by
  cases c with
  | lst xs => obtain ⟨us, h1, h2⟩ := h; rw [e] at h1; cases h1; exact ⟨xs, rfl, h2⟩
  | ins c fs => obtain ⟨dx, us, h1, _⟩ := h; rw [e] at h1; cases h1
theorem ok_app {i : Nat} {x : Str} {apos cpos : Pos} (hv : PE X (.Name x p) (tVar i)) (he : OkE X C P G ie e) (hs : isStar e = false) (hline : (apos.endLine == cpos.line) = true) :
    OkS X C P G sup xf (.app i ie) (.Expr (.Call (.Attribute (.Name x p) "append" apos) [e] [] cpos) pos) := by
  have hall : [e].all (fun e => !isStar e) = true := by rw [List.all_cons, hs]; rfl
  refine ps_weak (ps_expr (pe_bm (r := rAppend) PySem.F.plainAttrs_list PySem.F.slot_list_append PySem.F.type_list_append mt_append hv (pa_cons he pa_nil (star_cons hs)) rfl (bm_few hall (by show 1 < 20; decide)) hline (star_cons hs) rfl) rfl) fun D σ H ⟨A, ω, env, st, S, q⟩ => ?_
  unfold ex at q
  obtain ⟨u, hu, q⟩ := liftS_some q
  obtain ⟨a, vs, h1, h2⟩ := slL_ok S hu
  refine ⟨_, h1, .inl ⟨rfl, vs, .of h2⟩, tI.stepS S q fun d s1 ω1 H1 v x1 S1 r1 q1 => ?_⟩
  obtain ⟨b, c, c', k1, k2, k3, k4⟩ := chg_ok S1 q1
  rw [h1] at k1; cases k1
  split at k3
  · rename_i xs
    obtain ⟨us, k2, k2r⟩ := k2
    split at k3
    · rename_i hlt
      cases k3
      have hl := k2r.length
      exact ⟨a, us, v, rfl, rfl, k2, by rw [← hl]; exact (show xs.length < sizeLine from hlt), k4 (.lst (us ++ [v])) (k2r.append (.one r1))⟩
    · cases k3
  · cases k3
theorem ok_ins {i : Nat} {x : Str} {apos cpos : Pos} {a2 : Expr} {ia : Ex} (hv : PE X (.Name x p) (tVar i)) (ha : OkE X C P G ia a2) (he : OkE X C P G ie e) (hs0 : isStar a2 = false) (hs : isStar e = false) (hline : (apos.endLine == cpos.line) = true) :
    OkS X C P G sup xf (.ins i ia ie) (.Expr (.Call (.Attribute (.Name x p) "insert" apos) [a2, e] [] cpos) pos) := by
  have hall : [a2, e].all (fun e => !isStar e) = true := by rw [List.all_cons, List.all_cons, hs, hs0]; rfl
  have hall1 : [e].all (fun e => !isStar e) = true := by rw [List.all_cons, hs]; rfl
  refine ps_weak (ps_expr (pe_bm PySem.F.plainAttrs_list PySem.F.slot_list_insert PySem.F.type_list_insert mt_insert hv (pa_cons ha (pa_cons he pa_nil (star_cons hs)) (star_cons hs0)) rfl (bm_few hall (by show 2 < 20; decide)) hline (star_cons hs0) (back_plain hall1)) rfl) fun D σ H ⟨A, ω, env, st, S, q⟩ => ?_
  unfold ex at q
  obtain ⟨u, hu, q⟩ := liftS_some q
  obtain ⟨a, vs, h1, h2⟩ := slL_ok S hu
  refine ⟨_, h1, .inl ⟨rfl, vs, .of h2⟩, tI.stepS S q fun k s0 ω0 H0 w x0 S0 r0 q0 => tI.stepS S0 q0 fun d s1 ω1 H1 v x1 S1 r1 q1 => ?_⟩
  have r0' := r0.keep x1.keep
  obtain ⟨b, c, c', k1, k2, k3, k4⟩ := chg_ok S1 q1
  rw [h1] at k1; cases k1
  split at k3
  · rename_i xs k
    obtain ⟨us, k2, k2r⟩ := k2
    split at k3
    · rename_i hlt
      cases k3
      cases r0'
      have hl := k2r.length
      have hb : (k : Int) < 2 ^ 63 := by
        have := hlt.2.2
        have h3 : big = 16777216 := rfl
        omega
      refine ⟨a, us, k, v, rfl, rfl, k2, by rw [← hl]; exact (show xs.length < sizeLine from hlt.2.2), hlt.1, hb, k4 (.lst _) ?_⟩
      have e2 : xs.take k.toNat ++ d :: xs.drop k.toNat = xs.take k.toNat ++ [d] ++ xs.drop k.toNat := by simp
      rw [e2]
      exact ((k2r.take k.toNat).append (.one r1)).append (k2r.drop k.toNat)
    · cases k3
  · cases k3
theorem slA_ok {i : Nat} {u : Unit} (S : SimS (bs X C) C A ω env st σ H) (h : slA env i = some u) : ∃ a, σ[i]? = some (some (.ref a)) := by
  unfold slA at h
  split at h
  · rename_i c hc
    obtain ⟨a, h1, _⟩ := S.sim.env.own i _ hc
    exact ⟨a, h1⟩
  · rename_i l hl
    obtain ⟨v, h1, h2⟩ := S.sim.env.val i _ hl
    cases h2 with
    | @loc _ a hφ => exact ⟨a, h1⟩
  · cases h
theorem ixD_ixN {n : Nat} {k : Int} : ixD n k = ixN n k := rfl
def notSlice : Expr → Bool
  | .Slice .. => false
  | _ => true
theorem assign_sub {o k : Expr} {env : Env} {spos : Pos} (hk : notSlice k = true) (v : Value) : assign (.Subscript o k spos) env v = (do
      let ov ← holding [v] (eval o env)
      let iv ← holding [v, ov] (eval k env)
      standAt (spos)
      holding [v, ov, iv] (setItem ov iv v)
      release [v, ov, iv] []) := by
  cases k <;> first | rfl | cases hk
theorem ok_sti {i : Nat} {k e : Expr} {ik : Ex} {o : Expr} {spos : Pos} (hv : PE X o (tVar i)) (hk : OkE X C P G ik k) (he : OkE X C P G ie e) (hp : notSlice k = true)
    (hs : swapsWithSole [.Subscript o k spos] e pos.line X.env = pure false) (hw : swappedStores [.Subscript o k spos] e X.env = pure none) :
    OkS X C P G sup xf (.sti i ik ie) (.Assign [.Subscript o k spos] e pos) := by
  refine ps_weak (ps_asg he (pg_sub hv hk set_list (assign_sub hp)) hs hw) fun D σ H ⟨A, ω, env, st, S, q⟩ => ?_
  unfold ex at q
  obtain ⟨u, hu, q⟩ := liftS_some q
  refine tI.stepS S q fun d s0 ω0 H0 v x0 S0 r0 q0 => ?_
  obtain ⟨a, h1⟩ := slA_ok S hu
  refine ⟨_, h1, tI.stepS S0 q0 fun y s1 ω1 H1 w x1 S1 r1 q1 => ?_⟩
  have r0' := r0.keep x1.keep
  obtain ⟨b, c, c', k1, k2, k3, k4⟩ := chg_ok S1 q1
  rw [h1] at k1; cases k1
  split at k3
  · rename_i xs k
    obtain ⟨us, k2, k2r⟩ := k2
    cases r1
    obtain ⟨j, hj, e3⟩ := Option.map_eq_some_iff.mp k3
    subst e3
    exact ⟨a, us, k, j, rfl, rfl, k2, by rw [← k2r.length]; exact hj, k4 (.lst _) (RelDs.set r0' j k2r)⟩
  · cases k3
theorem RelFs.put {B : Base} (inj : ∀ a b, B.T.nm a = B.T.nm b → a = b) {n : Nat} {d : D} {v : V} (r : RelD B ω H d v) : ∀ {fs : List (Nat × D)} {vs : List (Str × V)}, RelFs B ω H fs vs → RelFs B ω H (putF n d fs) (L2.putF (B.T.nm n) v vs)
  | _, _, .nil => .cons r .nil
  | _, _, @RelFs.cons _ _ _ m x fs w vs h t => by
    unfold putF L2.putF
    by_cases e : m = n
    · subst e
      rw [if_pos rfl, if_pos rfl]
      exact .cons r t
    · rw [if_neg e, if_neg (fun z => e (inj _ _ z))]
      exact .cons h (RelFs.put inj r t)
theorem RelFs.len {B : Base} : ∀ {fs : List (Nat × D)} {vs : List (Str × V)}, RelFs B ω H fs vs → fs.length = vs.length
  | _, _, .nil => rfl
  | _, _, .cons _ t => by rw [List.length_cons, List.length_cons, RelFs.len t]
/-- o.f = e -/
theorem ok_sta {i f : Nat} {m : Str} {o e : Expr} {spos : Pos} (inj : ∀ a b, C.T.nm a = C.T.nm b → a = b) (hm : C.T.nm f = m) (hA : ∀ c, P.isAt c f = true → Cls X.K (C.T.ca c) ∧ NoAttr X.K (C.T.ca c) m) (hv : PE X o (tVar i)) (he : OkE X C P G ie e)
    (hs : swapsWith e (some (.Attribute o m spos)) pos.line X.env = pure false) : OkS X C P G sup xf (.sta i f ie) (.Assign [.Attribute o m spos] e pos) := by
  subst hm
  refine ps_weak (ps_fld hv he hs) fun D σ H ⟨A, ω, env, st, S, q⟩ => ?_
  unfold ex at q
  obtain ⟨u, hu, q⟩ := liftS_some q
  refine tI.stepS S q fun d s1 ω1 H1 v x1 S1 r1 q1 => ?_
  obtain ⟨a, h1⟩ := slA_ok S hu
  refine ⟨_, h1, ?_⟩
  obtain ⟨b, c, c', k1, k2, k3, k4⟩ := chg_ok S1 q1
  rw [h1] at k1; cases k1
  split at k3
  · rename_i c fs
    obtain ⟨dx, us, k2, k2r⟩ := k2
    split at k3
    · rename_i hlt
      cases k3
      rw [Bool.and_eq_true, decide_eq_true_eq] at hlt
      obtain ⟨z1, z2⟩ := hA c hlt.1
      have hl := k2r.len
      exact ⟨a, C.T.ca c, dx, us, rfl, k2, z1, z2, by omega, k4 (.ins _ dx _) ⟨rfl, k2r.put inj r1⟩⟩
    · cases k3
  · cases k3
theorem tAug_go {i : Nat} {f : Int → Int → Int} {o : Op} (hf : ∀ a b z, opB o (.int a) (.int b) = some z → z = .int (f a b)) {D : Ends} (q : tS (bs X C) C (ex P G sup xf C.xh (.aug i o ie)) D σ H) : tAug i (tI (bs X C) C (ev P G C.xh ie)) (ipI f) D σ H := by
  obtain ⟨A, ω, env, st, S, q⟩ := q
  unfold ex at q
  cases hi : env[i]? with
  | none => rw [hi] at q; exact q.elim
  | some s =>
    rw [hi] at q
    cases s with
    | no => exact q.elim
    | ow c => exact q.elim
    | xc => exact q.elim
    | d x =>
      obtain ⟨v, h1, h2⟩ := S.sim.env.val i x hi
      dsimp only at q
      refine ⟨v, h1, tI.stepS S q fun y s1 ω1 H1 w x1 S1 r1 q1 => ?_⟩
      split at q1
      · rename_i a b
        cases h2
        cases r1
        obtain ⟨z, hz, q2⟩ := liftS_some q1
        have e := hf _ _ _ hz
        subst e
        exact ⟨a, b, rfl, rfl, q2.here (S1.set (.int _))⟩
      · exact q1.elim
theorem ok_augA {i : Nat} {x : Str} {e : Expr} {tpos : Pos} (hN : X.N.Nodup) (hi : X.N[i]? = some x) (hx : Loc X.env.scope x) (hf : X.fn x = true ∨ X.env.scope.names.lookup x = some .local) (he : OkE X C P G ie e) :
    OkS X C P G sup xf (.aug i .add ie) (.AugAssign (.Name x tpos) .Add e pos) :=
  ps_weak (ps_aug hN hi hx he ip_add hf) fun D σ H q => tAug_go (f := fun a b => a + b) (o := .add) (fun a b z h => by
    have h' : addD (.int a) (.int b) = some z := h
    unfold addD at h'
    exact (Option.some.inj h').symm) q
theorem ok_augS {i : Nat} {x : Str} {e : Expr} {tpos : Pos} (hN : X.N.Nodup) (hi : X.N[i]? = some x) (hx : Loc X.env.scope x) (hf : X.fn x = true ∨ X.env.scope.names.lookup x = some .local) (he : OkE X C P G ie e) :
    OkS X C P G sup xf (.aug i .sub ie) (.AugAssign (.Name x tpos) .Sub e pos) :=
  ps_weak (ps_aug hN hi hx he ip_sub hf) fun D σ H q => tAug_go (f := fun a b => a - b) (o := .sub) (fun a b z h => by
    have h' : subD (.int a) (.int b) = some z := h
    unfold subD at h'
    exact (Option.some.inj h').symm) q
end
end Iv

set_option Elab.async false
set_option linter.all false
set_option maxRecDepth 100000
set_option maxHeartbeats 4000000
/-! IvX: own error classes whose __init__ says super().__init__(..) and keeps its arguments as fields. -/
namespace Iv
open PySem PySem.Spec L2 PySem.W PySem.Calls
open PyProof.Rows hiding St
/-- what the written part says of the class at C (its __init__ at fI, the cell of __class__ at cc, the code at cda) -/
structure XTxt (prog : Program) (K : Frag) (C fI cc cda : Addr) (qual : Str) (scope : Scope) (params : Arguments) (body : List Stmt) (ns : List Str) : Prop where
  cls : ∃ nm q N bs bm sn sub ab col dd k0 k1 k2 k3 k5, K.lookup C = some (excClassObj nm q C N bs bm true sn sub ab col dd k0 k1 k2 k3 k5 "ValueError.__new__") ∧ HandSPX.refsVE bm = true
  sa : findIn K (.ref C) "__setattr__" = some (some (.builtin "object.__setattr__"))
  noN : ns.all (fun n => decide (findIn K (.ref C) n = some none)) = true
  iC : findIn K (.ref C) "__init__" = some (some (.ref fI))
  tC : typeIn K (.ref fI) = some (.type "function")
  kC : keepIn K (.ref C) = true
  exC : subIn K (.ref C) (.type "BaseException") = some true
  veC : subIn K (.ref C) (.type "ValueError") = some true
  tyC : typeIn K (.ref C) = some (.type "type")
  fn : ∃ (oc : Value) (od : Option Addr) (kV doc pm : Value) (an : Option Addr) (ct : Value) (osl : Array (Option Value)), K.lookup fI = some ⟨oc, od, .func (ksFn "__init__" qual params body scope .none kV doc pm an (.ref cda) ct cc), osl⟩
  code : codeIn K (.ref cda) qual = true
  cd : ∃ (ccl : Value) (cdd : Option Addr) (vs : Array Value) (ccs : Array (Option Value)) (file : Str) (tf : Tok), K.lookup cda = some ⟨ccl, cdd, .fields vs, ccs⟩ ∧ vs[2]? = some (.str file tf) ∧ ((prog.main.file : Str) == file) = true
  cell : ∃ cl cld csl, K.lookup cc = some ⟨cl, cld, .cell (some (.ref C)), csl⟩
  opq : nsIn K cStatics "thirdparty.any" = some none
  sup : ks_superIn K C C "__init__" = some (some (.builtin "ValueError.__init__"))
  selfSub : mroIn K C (.ref C) = some true
  top : (prog.main.scope.names.lookup ("super" : Str)).isSome = false
  sk : scope.kind = .function
  sco : scope.isCoroutine = false
  sge : scope.isGenerator = false
  scl : (scope.names.all fun x => decide (x.2 ≠ .cell)) = true
  sse : scope.names.lookup ("self" : Str) = some .local
  sn : ns.all (fun n => decide (scope.names.lookup n = some .local)) = true
  ssu : scope.names.lookup ("super" : Str) = some .globalImplicit
  scc : scope.names.lookup ("__class__" : Str) = some .free
  hd : ∃ a, (params.posonlyargs ++ params.args).head? = some a ∧ a.arg = ("self" : Str)
  dbg : ns.all (fun n => !(n == ("__debug__" : Str))) = true
  nself : ns.all (fun n => !(n == ("self" : Str))) = true
section
variable {prog : Program} {w : World} {A : Around} {E : Value → Shared → Prop} {R : Result → Shared → Prop} {K : Frag} {C fI cc cda : Addr} {qual : Str} {scope : Scope} {params : Arguments} {body : List Stmt} {ns : List Str}
  {hp : Heap} {g : Array GenState} {d : Drawn} {t : Nat} {os : OsState}
theorem ldE {M : Model} {A : Around} {E : Value → Shared → Prop} {s : Shared} {env : Env} {m : Str → Option Value} {x : Str} {pos : Pos} {v : Value} {Q : Value → Shared → Prop} (hn : s.heap.Ns env.locals m) (hv : m x = some v) (h : Q v s)
    (hk : env.scope.kind = .function) (hl : env.kindOf x = some .local) (hd : (x == ("__debug__" : Str)) = false) :
    wpAny M A (eval (.Name x pos) env) Q E s := wpAny_Name (wpAny_loadName_local hk hl hn hv h) hd
theorem meth_form0 {o : Expr} {m : Str} {apos pos : Pos} {env : Env} {es : List Expr} (hs : es.all (fun e => !isStar e) = true) (hn : es.length < 20) (hl : (apos.endLine == pos.line) = true) :
    eval (.Call (.Attribute o m apos) es [] pos) env = (do
      let ov ← attributeBase o m env (eval o env)
      standAt apos.atName
      let (f, first) ← holding [ov] (getMethod ov m (plainOf o env))
      callWith pos f first (backTo pos (starEach es env)) (backToKw pos (keywordEach [] env))) := by
  have e1 : eval (.Call (.Attribute o m apos) es [] pos) env = (do
      let ov ← attributeBase o m env (eval o env)
      standAt apos.atName
      methodCall o m apos pos env ov (es.length + ([] : List Keyword).length) (backTo pos (starEach es env)) (backToKw pos (keywordEach [] env))) := rfl
  rw [e1]
  have hf : methodCallForm (es.length + ([] : List Keyword).length) (backTo pos (starEach es env)) (backToKw pos (keywordEach [] env)) = true := by
    unfold methodCallForm
    have a1 : (backTo pos (starEach es env)).all (fun x => !x.1) = true := by
      rw [star_plain hs]
      unfold backTo
      rw [List.map_map, List.all_map, List.all_eq_true]
      intro e _
      rfl
    rw [a1]
    show (true && ([] : List (Option Str × Sem Value)).all _ && decide (_ < 30)) = true
    simp [backToKw, keywordEach]
    omega
  have e2 : ∀ ov, methodCall o m apos pos env ov (es.length + ([] : List Keyword).length) (backTo pos (starEach es env)) (backToKw pos (keywordEach [] env)) = (do
      let (f, first) ← holding [ov] (getMethod ov m (plainOf o env))
      callWith pos f first (backTo pos (starEach es env)) (backToKw pos (keywordEach [] env))) := fun ov => mcall_line hf hl
  congr 1
  funext ov
  congr 1
  funext _
  exact e2 ov
/-- super().__init__(..) -/
theorem x_super (T : XTxt prog K C fI cc cda qual scope params body ns) {x t0 L : Addr} {us : List Value} {m mg mb : Str → Option Value} {es : List Expr} {p0 p1 p2 pos pos2 : Pos} {pl : Sem Bool} {Q : Flow → Shared → Prop}
    (X : K.In hp) (G : hp.Ns mainGlobals mg) (hms : mg "super" = none) (Bn : hp.Ns builtinsNs mb) (hmb : mb "super" = some (.type "super"))
    (hx : hp.get? x = some (HandSPX.excO C t0)) (hn : hp.Ns L m) (hv : m "self" = some (.ref x)) (hus : us.length ≤ sizeLine) (hne : es ≠ []) (hes : es.all (fun e => !isStar e) = true)
    (hargs : ∀ (h' : Heap) (t' : Nat) (Q' : List Value → Shared → Prop), h'.Ns L m → Q' us ⟨h', g, d, t', os⟩ → wpAny (model prog w) A (spliced (backTo pos (starEach es (ksEnv qual scope L fI (.ref cda) cc)))) Q' E ⟨h', g, d, t', os⟩)
    (he : eval (.Call (.Attribute (.Call (.Name "super" p0) [] [] p1) "__init__" p2) es [] pos) (ksEnv qual scope L fI (.ref cda) cc) = (do
        let ov ← attributeBase (.Call (.Name "super" p0) [] [] p1) "__init__" (ksEnv qual scope L fI (.ref cda) cc) (eval (.Call (.Name "super" p0) [] [] p1) (ksEnv qual scope L fI (.ref cda) cc))
        standAt p2.atName
        let (f, first) ← holding [ov] (getMethod ov "__init__" pl)
        callWith pos f first (backTo pos (starEach es (ksEnv qual scope L fI (.ref cda) cc))) []))
    (hq : ∀ h' t' t1, (∀ b o, b ≠ x → hp.get? b = some o → h'.get? b = some o) → h'.get? x = some (HandSPX.excO C t1) → Q .next ⟨h', g, d, t', os⟩) :
    _root_.PySem.wpAt (model prog w) A (.func body (ksEnv qual scope L fI (.ref cda) cc)) (exec (.Expr (.Call (.Attribute (.Call (.Name "super" p0) [] [] p1) "__init__" p2) es [] pos) pos2) (ksEnv qual scope L fI (.ref cda) cc)) Q E ⟨hp, g, d, t, os⟩ := by
  obtain ⟨oc, od, kV, doc, pm, an, ct, osl, hf⟩ := T.fn
  obtain ⟨ccl, cdd, vs, ccs, file, tf, hcode, hvs, hfile⟩ := T.cd
  obtain ⟨cl, cld, csl, hcell⟩ := T.cell
  obtain ⟨nm, q, N, bs, bm, sn, sub, ab, col, dd, k0, k1, k2, k3, k5, hC, hbm⟩ := T.cls
  obtain ⟨ar, har, hself⟩ := T.hd
  have hcl : clsIn K C = some { name := nm, bases := bs, mro := .ref C :: bm, ns := N, qualname := q, hasDict := true, slotNames := sn, subclasses := sub, abstract := ab, collection := col, hasDel := false } := by unfold clsIn; rw [hC] <;> rfl
  refine ks_wpAt_Expr_any ?_ (by first | rfl | (unfold interactive; simp [T.sk])) ?_
  · refine ks_wpAt_MethodCall ?_ he
    refine ks_wpAt_super_base (env := ksEnv qual scope L fI (.ref cda) cc) T.ssu T.scc (by decide) rfl (X _ _ hf) rfl har rfl (X _ _ hcode) rfl hvs hfile T.top ?_
    refine ks_loadName_global T.sk T.ssu (Calls.loadGlobal_builtin (env := ksEnv qual scope L fI (.ref cda) cc) G hms Bn hmb ⟨rfl, ?_⟩)
    refine wpAny_loadName_free T.sk T.scc rfl ⟨_, X _ _ hcell, rfl⟩ ?_
    rw [hself]
    refine wpAny_loadName_local T.sk T.sse hn hv ?_
    refine ks_wpAny_isType_cls (X _ _ hC) rfl ⟨rfl, ?_⟩
    refine ks_wpAny_call_super (X _ _ hC) rfl hx rfl (fun c e => by cases e) (looks_mroIn X T.selfSub) (fun h1 hso k1' => ?_)
    have X1 : K.In h1 := X.keeps k1'
    have hx1 := k1' _ _ hx
    have I1 : InstAt h1 x (HandSPX.excO C t0) C none := ⟨hx1, rfl, rfl, trivial⟩
    have hI : Looks (model prog w) h1 (isInstance (.ref x) (.type "ValueError")) true := I1.type.andThen (looks_subIn X1 T.veC)
    have hsup := T.sup
    unfold ks_superIn at hsup
    rw [hcl, Option.bind_some] at hsup
    refine kxs_getMethod kxs_ValueError hso (looks_opaque X1 T.opq) (l₀ := .ref C :: bm) ?_ rfl X1 hsup hI (ks_ne X1 I1 hcl) (by decide) ?_
    · exact fun A Q E s k q => wpAny_bind ((looks_clsIn X1 hcl) A _ E s k (wpAny_pure q))
    have k2' : ∀ b o, hp.get? b = some o → (h1.push (kxs_mw "ValueError.__init__" x)).get? b = some o := fun b o e => Heap.get?_push_of_some _ (k1' b o e)
    have hu : (h1.push (kxs_mw "ValueError.__init__" x)).get? h1.objs.size = some (kxs_mw "ValueError.__init__" x) := Heap.get?_push_at rfl rfl
    have hn2 : (h1.push (kxs_mw "ValueError.__init__" x)).Ns L m := hn.keeps k2'
    refine kxs_callWith (i := "ValueError.__init__") (x := x) ?_ ?_
    · exact back_plain hes
    have fin : wpAny (model prog w) A (call (.ref h1.objs.size) us) (fun _ s' => Q .next s') E ⟨h1.push (kxs_mw "ValueError.__init__" x), g, d, t + 1, os⟩ := by
      have FB := F.excBase_ValueError
      have hx2 := k2' _ _ hx
      refine wpAny_call (codeAny_of_tree ?_)
      show wpAny _ A.in1 (callAny (.ref h1.objs.size) ⟨us, []⟩) _ _ _
      simp only [callAny]
      refine wpAny_bind (wpAny_load hu ?_)
      simp only [kxs_mw, show (Value.type "method-wrapper" == Value.type "method" || Value.type "method-wrapper" == Value.type "builtin_function_or_method" || Value.type "method-wrapper" == Value.type "method-wrapper") = true by decide, if_true]
      refine KFB.if_so (by decide) ?_
      refine wpAny_bind (PySem.W.check_bound_init FB.toExcCallFacts (k2' _ _ (X _ _ hC)) hx2 rfl ?_)
      refine wpAny_bind (wpAny_pure (wpAny_pure ?_))
      refine ⟨plainId_quiet FB.init.plain _, codeAny_builtin FB.initEntry ?_⟩
      exact exc_init_tree (cls := .ref C) (t0 := t0) (dv := none) (c2 := .none) (c3 := .none) (b4 := .bool false) hx2 hus fun h' kk e' t' =>
        hq h' _ _ (fun b o hb e => kk b o hb (k2' b o e)) e'
    cases es with
    | nil => exact (hne rfl).elim
    | cons e es =>
      rw [List.all_cons, Bool.and_eq_true] at hes
      have hst := star_cons (es := es) (env := ksEnv qual scope L fI (.ref cda) cc) (show isStar e = false by simpa using hes.1)
      have := hargs (h1.push (kxs_mw "ValueError.__init__" x)) (t + 1) (fun vs s => KxsAt "ValueError.__init__" h1.objs.size x s.heap ∧ wpAny (model prog w) A (call (.ref h1.objs.size) ([] ++ vs)) (fun _ s' => Q .next s') E s) hn2 ⟨hu, fin⟩
      rw [hst] at this ⊢
      exact Calls.evalArgs_plain this
  · rfl
/-! ### the texts of __init__ -/
def xB1 (n : Str) (a0 a1 a2 a3 a4 a5 b0 b1 b2 b3 : Pos) : List Stmt := [.Expr (.Call (.Attribute (.Call (.Name "super" a0) [] [] a1) "__init__" a2) [.Name n a3] [] a4) a5, .Assign [.Attribute (.Name "self" b0) n b1] (.Name n b2) b3]
def xB2 (n m : Str) (a0 a1 a2 a3 a6 a4 a5 b0 b1 b2 b3 c0 c1 c2 c3 : Pos) : List Stmt := [.Expr (.Call (.Attribute (.Call (.Name "super" a0) [] [] a1) "__init__" a2) [.Name n a3, .Name m a6] [] a4) a5,
  .Assign [.Attribute (.Name "self" b0) n b1] (.Name n b2) b3, .Assign [.Attribute (.Name "self" c0) m c1] (.Name m c2) c3]
/-- what __init__ leaves of a fresh exception at x -/
structure XEnd (h h' : Heap) (x C dx t1 : Addr) (mA : Str → Option Value) : Prop where
  keep : ∀ b o, b ≠ x → h.get? b = some o → h'.get? b = some o
  obj : h'.get? x = some { cls := .ref C, dict := some dx, data := .fields #[.ref t1, .none, .none, .none, .bool false, .none] }
  dbig : h.objs.size ≤ dx
  dne : dx ≠ x
  ns : h'.Ns1 dx mA
theorem x_init1 {n : Str} {a0 a1 a2 a3 a4 a5 b0 b1 b2 b3 : Pos} (hbody : body = xB1 n a0 a1 a2 a3 a4 a5 b0 b1 b2 b3) (T : XTxt prog K C fI cc cda qual scope params body [n]) (hl : (a2.endLine == a4.line) = true) {x t0 : Addr} {v : Value} {args : Args} {mg mb : Str → Option Value}
    (X : K.In hp) (hlim : hp.NoLimit) (G : hp.Ns mainGlobals mg) (hms : mg "super" = none) (Bn : hp.Ns builtinsNs mb) (hmb : mb "super" = some (.type "super"))
    (hx : hp.get? x = some (HandSPX.excO C t0)) (hnx : K.lookup x = none) (hroom : A.depth < recursionLimit)
    (hbind : ∀ s kV doc pm an ct, BindsTo s (ksFn "__init__" qual params body scope .none kV doc pm an (.ref cda) ct cc) args [("self", .ref x), (n, v)])
    (hq : ∀ h' tk dx t1, XEnd hp h' x C dx t1 (fun y => if y = n then some v else none) → R (.ok (.ret .none)) ⟨h', g, d, tk, os⟩) :
    codeAny (model prog w) A (.call (.ref fI) args) R ⟨hp, g, d, t, os⟩ := by
  subst hbody
  obtain ⟨oc, od, kV, doc, pm, an, ct, osl, hf⟩ := T.fn
  obtain ⟨nm, q, N, bs, bm, sn, sub, ab, col, dd, k0, k1, k2, k3, k5, hC, hbm⟩ := T.cls
  have hcl : clsIn K C = some { name := nm, bases := bs, mro := .ref C :: bm, ns := N, qualname := q, hasDict := true, slotNames := sn, subclasses := sub, abstract := ab, collection := col, hasDel := false } := by unfold clsIn; rw [hC] <;> rfl
  have sn1 : scope.names.lookup n = some .local := by have := T.sn; simpa using this
  have dbg1 : (n == ("__debug__" : Str)) = false := by have := T.dbg; simpa using this
  have ns1 : ¬ n = ("self" : Str) := by have := T.nself; simpa using this
  have no1 : findIn K (.ref C) n = some none := by have := T.noN; simpa using this
  refine ks_codeAny_call_defAt (binds := [("self", .ref x), (n, v)]) hroom (X _ _ hf) rfl hlim (codeRec_of X T.code) rfl (hbind _ _ _ _ _ _) (fun y hy => ?_) (fun y hy => ?_) (fun h₀ hn k => ?_) T.sco T.sge T.sk
  · have := List.all_eq_true.mp T.scl y hy
    simpa using this
  · rcases List.mem_cons.mp hy with e | hy
    · subst e; exact T.sse
    · rcases List.mem_cons.mp hy with e | hy
      · subst e; exact sn1
      · cases hy
  have hxL : hp.objs.size ≠ x := Nat.ne_of_gt (Heap.lt_size hx)
  have mself : (fun y => [(("self" : Str), Value.ref x), (n, v)].reverse.lookup y) "self" = some (.ref x) := by
    show List.lookup ("self" : Str) [(n, v), (("self" : Str), Value.ref x)] = _
    rw [List.lookup_cons, show (("self" : Str) == n) = false from by simpa using fun e => ns1 e.symm]
    simp [List.lookup]
  have mn : (fun y => [(("self" : Str), Value.ref x), (n, v)].reverse.lookup y) n = some v := by
    show List.lookup n [(n, v), (("self" : Str), Value.ref x)] = _
    rw [List.lookup_cons, show (n == n) = true from by simp]
  have hx0 := k _ _ hx
  refine ks_wpAt_execs_cons (x_super (us := [v]) T (X.keeps k) (G.keeps k) hms (Bn.keeps k) hmb hx0 hn mself (by rw [sizeLine_eq]; show 1 ≤ 16777216; decide) (by simp) rfl (fun h' t' Q' hn' q' => ?_) (meth_form0 rfl (by simp) hl) fun h1 tk1 t1 k1' hx1 => ?_)
  · exact spliced_more (ldE hn' mn (spliced_none q') T.sk sn1 dbg1)
  have hn1 : h1.Ns hp.objs.size (fun y => [(("self" : Str), Value.ref x), (n, v)].reverse.lookup y) := by
    obtain ⟨oL, es, ep, hL, r⟩ := hn
    exact ⟨oL, es, ep, k1' _ _ hxL hL, r⟩
  have X1 : K.In h1 := fun b o e => k1' b o (fun z => by
    rw [z, hnx] at e
    cases e) (k b o (X _ _ e))
  refine wpAt_of_wpAny (wpAny_execs_cons (plainObj_wpAny_Assign_Attribute ?_))
  refine ldE hn1 mn (ldE hn1 mself ?_ T.sk T.sse (by decide)) T.sk sn1 dbg1
  refine set_plain X1 (ox := HandSPX.excO C t1) (od := none) ⟨hx1, rfl, rfl, trivial⟩ T.sa ?_
  refine HandSPX.exc_osa X1 hx1 hcl (show HandSPX.refsVE (.ref C :: bm) = true from hbm) rfl no1 (fun h₃ tk₃ dx k₃ dn dne hx₃ hn₃ => ?_)
  refine wpAny_execs_nil (hq h₃ tk₃ dx t1 ⟨fun b o hb e => k₃ b o hb (k1' b o hb (k b o e)), hx₃, ?_, dne, hn₃⟩)
  have z1 : hp.objs.size < h1.objs.size := hn1.lt
  exact Nat.le_of_lt (Nat.lt_of_lt_of_le z1 dn)
theorem x_init2 {n n2 : Str} {a0 a1 a2 a3 a6 a4 a5 b0 b1 b2 b3 c0 c1 c2 c3 : Pos} (hbody : body = xB2 n n2 a0 a1 a2 a3 a6 a4 a5 b0 b1 b2 b3 c0 c1 c2 c3) (T : XTxt prog K C fI cc cda qual scope params body [n, n2]) (hnn : n ≠ n2) (hl : (a2.endLine == a4.line) = true) {x t0 : Addr} {v v2 : Value} {args : Args} {mg mb : Str → Option Value}
    (X : K.In hp) (hlim : hp.NoLimit) (G : hp.Ns mainGlobals mg) (hms : mg "super" = none) (Bn : hp.Ns builtinsNs mb) (hmb : mb "super" = some (.type "super"))
    (hx : hp.get? x = some (HandSPX.excO C t0)) (hnx : K.lookup x = none) (hroom : A.depth < recursionLimit)
    (hbind : ∀ s kV doc pm an ct, BindsTo s (ksFn "__init__" qual params body scope .none kV doc pm an (.ref cda) ct cc) args [("self", .ref x), (n, v), (n2, v2)])
    (hq : ∀ h' tk dx t1, XEnd hp h' x C dx t1 (fun y => if y = n2 then some v2 else if y = n then some v else none) → R (.ok (.ret .none)) ⟨h', g, d, tk, os⟩) :
    codeAny (model prog w) A (.call (.ref fI) args) R ⟨hp, g, d, t, os⟩ := by
  subst hbody
  obtain ⟨oc, od, kV, doc, pm, an, ct, osl, hf⟩ := T.fn
  obtain ⟨nm, q, N, bs, bm, sn, sub, ab, col, dd, k0, k1, k2, k3, k5, hC, hbm⟩ := T.cls
  have hcl : clsIn K C = some { name := nm, bases := bs, mro := .ref C :: bm, ns := N, qualname := q, hasDict := true, slotNames := sn, subclasses := sub, abstract := ab, collection := col, hasDel := false } := by unfold clsIn; rw [hC] <;> rfl
  obtain ⟨sn1, sn2⟩ : scope.names.lookup n = some .local ∧ scope.names.lookup n2 = some .local := by have := T.sn; simpa using this
  obtain ⟨dbg1, dbg2⟩ : (n == ("__debug__" : Str)) = false ∧ (n2 == ("__debug__" : Str)) = false := by have := T.dbg; simpa using this
  obtain ⟨ns1, ns2⟩ : ¬ n = ("self" : Str) ∧ ¬ n2 = ("self" : Str) := by have := T.nself; simpa using this
  obtain ⟨no1, no2⟩ : findIn K (.ref C) n = some none ∧ findIn K (.ref C) n2 = some none := by have := T.noN; simpa using this
  refine ks_codeAny_call_defAt (binds := [("self", .ref x), (n, v), (n2, v2)]) hroom (X _ _ hf) rfl hlim (codeRec_of X T.code) rfl (hbind _ _ _ _ _ _) (fun y hy => ?_) (fun y hy => ?_) (fun h₀ hn k => ?_) T.sco T.sge T.sk
  · have := List.all_eq_true.mp T.scl y hy
    simpa using this
  · rcases List.mem_cons.mp hy with e | hy
    · subst e; exact T.sse
    · rcases List.mem_cons.mp hy with e | hy
      · subst e; exact sn1
      · rcases List.mem_cons.mp hy with e | hy
        · subst e; exact sn2
        · cases hy
  have hxL : hp.objs.size ≠ x := Nat.ne_of_gt (Heap.lt_size hx)
  have mself : (fun y => [(("self" : Str), Value.ref x), (n, v), (n2, v2)].reverse.lookup y) "self" = some (.ref x) := by
    show List.lookup ("self" : Str) [(n2, v2), (n, v), (("self" : Str), Value.ref x)] = _
    rw [List.lookup_cons, show (("self" : Str) == n2) = false from by simpa using fun e => ns2 e.symm, List.lookup_cons, show (("self" : Str) == n) = false from by simpa using fun e => ns1 e.symm]
    simp [List.lookup]
  have mn : (fun y => [(("self" : Str), Value.ref x), (n, v), (n2, v2)].reverse.lookup y) n = some v := by
    show List.lookup n [(n2, v2), (n, v), (("self" : Str), Value.ref x)] = _
    rw [List.lookup_cons, show (n == n2) = false from by simpa using hnn, List.lookup_cons, show (n == n) = true from by simp]
  have mn2 : (fun y => [(("self" : Str), Value.ref x), (n, v), (n2, v2)].reverse.lookup y) n2 = some v2 := by
    show List.lookup n2 [(n2, v2), (n, v), (("self" : Str), Value.ref x)] = _
    rw [List.lookup_cons, show (n2 == n2) = true from by simp]
  have hx0 := k _ _ hx
  refine ks_wpAt_execs_cons (x_super (us := [v, v2]) T (X.keeps k) (G.keeps k) hms (Bn.keeps k) hmb hx0 hn mself (by rw [sizeLine_eq]; show 2 ≤ 16777216; decide) (by simp) rfl (fun h' t' Q' hn' q' => ?_) (meth_form0 rfl (by simp) hl) fun h1 tk1 t1 k1' hx1 => ?_)
  · exact spliced_more (ldE hn' mn (spliced_more (ldE hn' mn2 (spliced_none q') T.sk sn2 dbg2)) T.sk sn1 dbg1)
  have hn1 : h1.Ns hp.objs.size (fun y => [(("self" : Str), Value.ref x), (n, v), (n2, v2)].reverse.lookup y) := by
    obtain ⟨oL, es, ep, hL, r⟩ := hn
    exact ⟨oL, es, ep, k1' _ _ hxL hL, r⟩
  have X1 : K.In h1 := fun b o e => k1' b o (fun z => by
    rw [z, hnx] at e
    cases e) (k b o (X _ _ e))
  refine wpAt_of_wpAny (wpAny_execs_cons (plainObj_wpAny_Assign_Attribute ?_))
  refine ldE hn1 mn (ldE hn1 mself ?_ T.sk T.sse (by decide)) T.sk sn1 dbg1
  refine set_plain X1 (ox := HandSPX.excO C t1) (od := none) ⟨hx1, rfl, rfl, trivial⟩ T.sa ?_
  refine HandSPX.exc_osa X1 hx1 hcl (show HandSPX.refsVE (.ref C :: bm) = true from hbm) rfl no1 (fun h₃ tk₃ dx k₃ dn dne hx₃ hn₃ => ?_)
  have z1 : hp.objs.size < h1.objs.size := hn1.lt
  have hn3 : h₃.Ns hp.objs.size (fun y => [(("self" : Str), Value.ref x), (n, v), (n2, v2)].reverse.lookup y) := by
    obtain ⟨oL, es, ep, hL, r⟩ := hn1
    exact ⟨oL, es, ep, k₃ _ _ hxL hL, r⟩
  have X3 : K.In h₃ := fun b o e => k₃ b o (fun z => by
    rw [z, hnx] at e
    cases e) (X1 _ _ e)
  refine wpAny_execs_cons (plainObj_wpAny_Assign_Attribute ?_)
  refine ldE hn3 mn2 (ldE hn3 mself ?_ T.sk T.sse (by decide)) T.sk sn2 dbg2
  obtain ⟨oD, _, _, hoD, _, _⟩ := hn₃.count (Within.cons n v Within.nil)
  refine set_plain X3 (ox := { cls := .ref C, dict := some dx, data := .fields #[.ref t1, .none, .none, .none, .bool false, .none] }) (od := some oD) ⟨hx₃, rfl, rfl, hoD⟩ T.sa ?_
  refine PySem.OEX.osa_old X3 hx₃ hn₃ (Within.cons n v Within.nil) (by show 1 ≤ 1000; decide) hcl (show HandSPX.refsVE (.ref C :: bm) = true from hbm) rfl no2 (fun h₄ tk₄ k₄ hn₄ => ?_)
  have old : ∀ b o, b ≠ x → hp.get? b = some o → h₄.get? b = some o := fun b o hb e => k₄ b o (fun z => by
    have := Heap.lt_size (k₃ b o hb (k1' b o hb (k b o e)))
    have l := Heap.lt_size e
    have q1 : dx < hp.objs.size := by rw [← z]; exact l
    exact absurd (Nat.lt_of_lt_of_le (Nat.lt_trans q1 z1) dn) (Nat.lt_irrefl _)) (k₃ b o hb (k1' b o hb (k b o e)))
  refine wpAny_execs_nil (hq h₄ tk₄ dx t1 ⟨old, k₄ _ _ (Ne.symm dne) hx₃, ?_, dne, hn₄⟩)
  exact Nat.le_of_lt (Nat.lt_of_lt_of_le z1 dn)
end

/-! ### made: C(..) in a context -/
/-- what is known of an error class: its call makes an exception of it with these fields -/
structure FnX (X : Cx) (C : Addr) (ns : List Str) : Prop where
  sup : X.mg "super" = none
  raises : Raises X (.ref C)
  keep : keepIn X.K (.ref C) = true
  make : ∀ {A : Around} {R : Result → Shared → Prop} {hp : Heap} {g : Array GenState} {d : Drawn} {t : Nat} {os : OsState} {us : List Value} {mb : Str → Option Value}, us.length = ns.length → X.K.In hp → hp.NoLimit → hp.Ns mainGlobals X.mg →
    hp.Ns builtinsNs mb → mb "super" = some (.type "super") → A.depth + 1 < recursionLimit →
    (∀ h' tk e dx oe vs mA, (∀ b o, hp.get? b = some o → h'.get? b = some o) → hp.objs.size ≤ e → h'.get? e = some oe → oe.cls = .ref C → oe.dict = some dx → oe.data = .fields vs → vs[1]? = some .none → hp.objs.size ≤ dx → dx ≠ e →
      h'.Ns1 dx mA → (∀ f, mA f = (ns.zip us).lookup f) → R (.ok (.ret (.ref e))) ⟨h', g, d, tk, os⟩) →
    codeAny (model X.prog X.w) A (.call (.ref C) ⟨us, []⟩) R ⟨hp, g, d, t, os⟩
theorem look1 {n : Str} {v : Value} (f : Str) : (if f = n then some v else none) = ([n].zip [v]).lookup f := by
  show _ = List.lookup f [(n, v)]
  rw [List.lookup_cons]
  by_cases e : f = n
  · rw [if_pos e, show (f == n) = true from by simpa using e]
  · rw [if_neg e, show (f == n) = false from by simpa using e]; rfl
theorem look2 {n n2 : Str} {v v2 : Value} (hnn : n ≠ n2) (f : Str) : (if f = n2 then some v2 else if f = n then some v else none) = ([n, n2].zip [v, v2]).lookup f := by
  show _ = List.lookup f [(n, v), (n2, v2)]
  rw [List.lookup_cons, List.lookup_cons]
  by_cases e : f = n
  · rw [show (f == n) = true from by simpa using e, if_neg (fun z => hnn (by rw [← e, z])), if_pos e]
  · rw [show (f == n) = false from by simpa using e, if_neg e]
    by_cases e2 : f = n2
    · rw [if_pos e2, show (f == n2) = true from by simpa using e2]
    · rw [if_neg e2, show (f == n2) = false from by simpa using e2]; rfl
theorem made_go {prog : Program} {w : World} {K : Frag} {C fI : Addr} {mg mb : Str → Option Value} {A : Around} {R : Result → Shared → Prop} {hp : Heap} {g : Array GenState} {d : Drawn} {t : Nat} {os : OsState} {us : List Value} {mA : Str → Option Value}
    (cls : ∃ nm q N bs bm sn sub ab col dd k0 k1 k2 k3 k5, K.lookup C = some (excClassObj nm q C N bs bm true sn sub ab col dd k0 k1 k2 k3 k5 "ValueError.__new__") ∧ HandSPX.refsVE bm = true)
    (iC : findIn K (.ref C) "__init__" = some (some (.ref fI))) (tC : typeIn K (.ref fI) = some (.type "function")) (X : K.In hp) (hlim : hp.NoLimit) (G : hp.Ns mainGlobals mg) (Bn : hp.Ns builtinsNs mb) (hus : us.length ≤ sizeLine)
    (hi : ∀ {A' : Around} {R' : Result → Shared → Prop} {hp' : Heap} {x t0 : Addr}, K.In hp' → hp'.NoLimit → hp'.Ns mainGlobals mg → hp'.Ns builtinsNs mb → hp'.get? x = some (HandSPX.excO C t0) → K.lookup x = none → A'.depth = A.depth + 1 →
      (∀ h' tk dx t1, XEnd hp' h' x C dx t1 mA → R' (.ok (.ret .none)) ⟨h', g, d, tk, os⟩) → codeAny (model prog w) A' (.call (.ref fI) ⟨.ref x :: us, []⟩) R' ⟨hp', g, d, t, os⟩)
    (hq : ∀ h' tk e dx oe vs, (∀ b o, hp.get? b = some o → h'.get? b = some o) → hp.objs.size ≤ e → h'.get? e = some oe → oe.cls = .ref C → oe.dict = some dx → oe.data = .fields vs → vs[1]? = some .none → hp.objs.size ≤ dx → dx ≠ e →
      h'.Ns1 dx mA → R (.ok (.ret (.ref e))) ⟨h', g, d, tk, os⟩) :
    codeAny (model prog w) A (.call (.ref C) ⟨us, []⟩) R ⟨hp, g, d, t, os⟩ := by
  obtain ⟨nm, q, N, bs, bm, sn, sub, ab, col, dd, k0, k1, k2, k3, k5, hC, hbm⟩ := cls
  have k : ∀ b o, hp.get? b = some o → ((hp.push (kdv_tup us)).push (HandSPX.excO C hp.objs.size)).get? b = some o := fun b o e => Heap.get?_push_of_some _ (Heap.get?_push_of_some _ e)
  have hget : ((hp.push (kdv_tup us)).push (HandSPX.excO C hp.objs.size)).get? (hp.objs.size + 1) = some (HandSPX.excO C hp.objs.size) := by heap_get
  have hnx : K.lookup (hp.objs.size + 1) = none := by
    cases e : K.lookup (hp.objs.size + 1) with
    | none => rfl
    | some o =>
      have z : hp.get? (hp.objs.size + 1) = some o := X _ _ e
      exact absurd (Nat.lt_of_succ_lt (Heap.lt_size z)) (Nat.lt_irrefl _)
  refine HandSPX.call_own F.excBase_ValueError (fun Y => HandSPX.refsVE_contains Y bm hbm) (X _ _ hC) (looks_findIn X iC) (fun self => bind_fn X self tC) hus ?_
  refine hi (X.keeps k) (hlim.keeps k) (G.keeps k) (Bn.keeps k) hget hnx rfl fun h' tk' dx t1 M => ?_
  have old : ∀ b o, hp.get? b = some o → h'.get? b = some o := fun b o e => M.keep b o (Nat.ne_of_lt (Nat.lt_succ_of_lt (Heap.lt_size e))) (k b o e)
  have z : hp.objs.size + 1 + 1 ≤ dx := by
    first
      | (simpa only [Heap.size_push] using M.dbig)
      | exact M.dbig
      | (have q := M.dbig; rw [Heap.size_push, Heap.size_push] at q; exact q)
  exact ⟨rfl, hq h' tk' (hp.objs.size + 1) dx _ _ old (Nat.le_succ _) M.obj rfl rfl rfl rfl (Nat.le_trans (Nat.le_trans (Nat.le_succ _) (Nat.le_succ _)) z) M.dne M.ns⟩
theorem fnX1 {X : Cx} {C fI cc cda : Addr} {qual : Str} {scope : Scope} {params : Arguments} {n : Str} {a0 a1 a2 a3 a4 a5 b0 b1 b2 b3 : Pos} (hs : X.mg "super" = none) (T : XTxt X.prog X.K C fI cc cda qual scope params (xB1 n a0 a1 a2 a3 a4 a5 b0 b1 b2 b3) [n]) (hl : (a2.endLine == a4.line) = true)
    (hbind : ∀ s kV doc pm an ct x v, BindsTo s (ksFn "__init__" qual params (xB1 n a0 a1 a2 a3 a4 a5 b0 b1 b2 b3) scope .none kV doc pm an (.ref cda) ct cc) ⟨[.ref x, v], []⟩ [("self", .ref x), (n, v)]) : FnX X C [n] := by
  refine ⟨hs, raises_own T.exC T.tyC, T.kC, fun {A R hp g d t os us mb} hlen hK hlim G Bn hmb hroom hq => ?_⟩
  obtain ⟨v, rfl⟩ : ∃ v, us = [v] := by
    match us, hlen with
    | [v], _ => exact ⟨v, rfl⟩
  refine made_go T.cls T.iC T.tC hK hlim G Bn (by rw [sizeLine_eq]; show 1 ≤ 16777216; decide) (mA := fun y => if y = n then some v else none) (fun {A' R' hp' x t0} X' l' G' B' hx hnx hd hq' => ?_) fun h' tk e dx oe vs k1 k2 k3 k4 k5 k6 k7 k8 k9 k10 => hq h' tk e dx oe vs _ k1 k2 k3 k4 k5 k6 k7 k8 k9 k10 look1
  exact x_init1 rfl T hl X' l' G' hs B' hmb hx hnx (by rw [hd]; exact hroom) (fun s kV doc pm an ct => hbind s kV doc pm an ct x v) hq'
theorem fnX2 {X : Cx} {C fI cc cda : Addr} {qual : Str} {scope : Scope} {params : Arguments} {n n2 : Str} {a0 a1 a2 a3 a6 a4 a5 b0 b1 b2 b3 c0 c1 c2 c3 : Pos} (hs : X.mg "super" = none) (T : XTxt X.prog X.K C fI cc cda qual scope params (xB2 n n2 a0 a1 a2 a3 a6 a4 a5 b0 b1 b2 b3 c0 c1 c2 c3) [n, n2]) (hnn : n ≠ n2) (hl : (a2.endLine == a4.line) = true)
    (hbind : ∀ s kV doc pm an ct x v v2, BindsTo s (ksFn "__init__" qual params (xB2 n n2 a0 a1 a2 a3 a6 a4 a5 b0 b1 b2 b3 c0 c1 c2 c3) scope .none kV doc pm an (.ref cda) ct cc) ⟨[.ref x, v, v2], []⟩ [("self", .ref x), (n, v), (n2, v2)]) : FnX X C [n, n2] := by
  refine ⟨hs, raises_own T.exC T.tyC, T.kC, fun {A R hp g d t os us mb} hlen hK hlim G Bn hmb hroom hq => ?_⟩
  obtain ⟨v, v2, rfl⟩ : ∃ v v2, us = [v, v2] := by
    match us, hlen with
    | [v, v2], _ => exact ⟨v, v2, rfl⟩
  refine made_go T.cls T.iC T.tC hK hlim G Bn (by rw [sizeLine_eq]; show 2 ≤ 16777216; decide) (mA := fun y => if y = n2 then some v2 else if y = n then some v else none) (fun {A' R' hp' x t0} X' l' G' B' hx hnx hd hq' => ?_) fun h' tk e dx oe vs k1 k2 k3 k4 k5 k6 k7 k8 k9 k10 => hq h' tk e dx oe vs _ k1 k2 k3 k4 k5 k6 k7 k8 k9 k10 (look2 hnn)
  exact x_init2 rfl T hnn hl X' l' G' hs B' hmb hx hnx (by rw [hd]; exact hroom) (fun s kV doc pm an ct => hbind s kV doc pm an ct x v v2) hq'
theorem zip_rel : ∀ {ns : List Str} {vs : List V} {us : List Value}, Vals vs us → ∀ f, RelO ((ns.zip vs).lookup f) ((ns.zip us).lookup f)
  | [], _, _, _, f => by rw [List.zip_nil_left, List.zip_nil_left]; trivial
  | n :: ns, _, _, .nil, f => by rw [List.zip_nil_right, List.zip_nil_right]; trivial
  | n :: ns, _, _, .cons r t, f => by
    rw [List.zip_cons_cons, List.zip_cons_cons, List.lookup_cons, List.lookup_cons]
    cases e : (f == n) with
    | true => exact r
    | false => exact zip_rel t f
/-- C(e, ..) -/
def tXMk (C : Addr) (ns : List Str) (ta : TA) : St → Hp → XK → Prop := fun σ H Q => ta σ H fun vs H1 => vs.length = ns.length ∧ ∀ d, H1 d = none → Q (.ref C) (some d) (upd H1 d (.xd (ns.zip vs)))
theorem pmk_x {X : Cx} {C : Addr} {ns : List Str} {x : Str} {e : Expr} {es : List Expr} {p pos : Pos} {ta : TA} {k : Nat} (F : FnX X C ns) (hr : Room (k + 1) X.A) (hg : Gl X x) (hm : X.mg x = some (.ref C)) (hdb : (x == ("__debug__" : Str)) = false) (ha : PA X (e :: es) ta)
    (he : starEach (e :: es) X.env = (false, eval e X.env) :: starEach es X.env) (hpl : (backTo pos (starEach es X.env)).any (·.1) = false) : PMk X (.Call (.Name x p) (e :: es) [] pos) (tXMk C ns ta) := by
  intro pins s σ H Q I h
  refine wpAny_Call_Name_kw (ld_glob I hg hm ?_ hdb)
  refine PySem.W.callWith_K (h₀ := X.base) I.ok.mod.kin F.keep (thn (ha.run pos pins s σ H _ I h) fun us s1 ⟨vs, H1, I1, r1, hl, q1⟩ => ⟨I1.kIn, ?_⟩) he hpl
  show wpAny _ _ (call (.ref C) us) _ _ _
  have hlim := I1.nolimit
  obtain ⟨mb, b1, b2⟩ := I1.mod.blt
  have hG : s1.heap.Ns mainGlobals X.mg := I1.mod.glob.keeps I1.bk
  have hB : s1.heap.Ns builtinsNs mb := b1.keeps I1.bk
  have hbm : mb "super" = some (.type "super") := (b2 _ (by decide)).trans (by first | kernel_rfl | rfl | boot_by_name)
  obtain ⟨hp, g, dr, tk, os⟩ := s1
  refine wpAny_call (F.make (us := us) (by rw [← Paired.length r1]; exact hl) I1.kIn hlim hG hB hbm (by have := hr.dp; omega) fun h' tk' e d oe fv mA k1 k2 hoe hc hd hdat h1 k8 k9 hns hma => ?_)
  show MkP X pins σ Q (.ref e) ⟨h', g, dr, tk', os⟩
  obtain ⟨G', g1, g2⟩ := restrict h' fun b => decide (b ≠ e)
  have gk : ∀ b, b ≠ e → G'.get? b = h'.get? b := fun b hb => g1 b (decide_eq_true hb)
  have ge : G'.get? e = none := g2 e (by simp)
  have old : ∀ b o, hp.get? b = some o → G'.get? b = some o := fun b o q => (gk b (Nat.ne_of_lt (Nat.lt_of_lt_of_le (Heap.lt_size q) k2))).trans (k1 b o q)
  have ob : ObjOk X.prog X.w (upd H1 d (.xd (ns.zip vs))) G' d (.xd (ns.zip vs)) :=
    ⟨mA, hns.at (fun o q => (gk d k9).trans q), fun f => by rw [hma f]; exact zip_rel r1 f⟩
  have J : Inv X pins σ (upd H1 d (.xd (ns.zip vs))) ⟨G', g, dr, tk', os⟩ := I1.laid (t' := tk') old k8 ob
  refine ⟨e, oe, fv, ⟨G', g, dr, tk', os⟩, _, .ref C, some d, rfl, J, fun b o q => ?_, ge, hoe, ⟨hc, hd⟩, hdat, h1, ?_, rfl, I1.bare, F.raises, q1 d (I1.hok.fresh k8)⟩
  · by_cases hb : b = e
    · have q' : G'.get? b = some o := q
      rw [hb, ge] at q'; cases q'
    · exact (gk b hb).symm.trans q
  · rw [upd_ne (Ne.symm k9)]
    exact I1.hok.fresh k2
end Iv

set_option Elab.async false
set_option linter.all false
set_option maxRecDepth 100000
set_option maxHeartbeats 4000000
/-! IvL: raise, try. -/
namespace Iv
open PySem PySem.Spec L2
open PyProof.Rows hiding St
theorem pss_ex {X : Cx} {b : List Stmt} {α : Sort _} {p : α → Prop} {t : α → TS} (h : ∀ x, p x → PSs X b (t x)) : PSs X b (fun D σ H => ∃ x, p x ∧ t x D σ H) :=
  ⟨fun pins s σ H D I ⟨x, hp, q⟩ => (h x hp).run pins s σ H D I q⟩
section
variable {X : Cx} {C : Cf} {P : Pt} {G : Fns} {sup : Nat → Nat → Option Bool} {xf : Nat → List Nat} {is : List Ex} {es : List Expr} {e : Expr} {n c i : Nat} {x : Str} {p pos pos2 : Pos}
theorem xfs_of {B : Base} (inj : ∀ a b, B.T.nm a = B.T.nm b → a = b) {ω : Wd} {H : Hp} : ∀ {ns : List Nat} {ds : List D} {vs : List V}, RelDs B ω H ds vs → XFs B ω H ns ds ((ns.map B.T.nm).zip vs)
  | [], _, _, _ => fun n d h => by rw [List.zip_nil_left] at h; cases h
  | _ :: _, _, _, .nil => fun n d h => by rw [List.zip_nil_right] at h; cases h
  | m :: ns, _, _, .cons r t => fun n d h => by
    rw [List.zip_cons_cons, List.lookup_cons] at h
    rw [List.map_cons, List.zip_cons_cons, List.lookup_cons]
    cases e : (n == m) with
    | true =>
      rw [e] at h
      cases h
      have e2 : n = m := by simpa using e
      subst e2
      exact ⟨_, by simp, r⟩
    | false =>
      rw [e] at h
      have e2 : (B.T.nm n == B.T.nm m) = false := by
        rw [beq_eq_false_iff_ne]
        intro z
        rw [inj _ _ z] at e
        simp at e
      rw [e2]
      exact xfs_of inj t n d h
theorem ok_rai (inj : ∀ a b, C.T.nm a = C.T.nm b → a = b) (hc : X.calm = true) (tk : Takes X C.W) (F : FnX X (C.T.xa c) ((C.T.xf c).map C.T.nm)) (hx : xf c = C.T.xf c) (hr : Room (n + 1) X.A) (hg : Gl X x) (hm : X.mg x = some (.ref (C.T.xa c))) (hdb : (x == ("__debug__" : Str)) = false)
    (hs : (e :: es).all (fun e => !isStar e) = true) (ha : OkA X C P G is (e :: es)) : OkS X C P G sup xf (.rai c is) (.Raise (some (.Call (.Name x p) (e :: es) [] pos)) none pos2) := by
  rw [List.all_cons, Bool.and_eq_true] at hs
  refine ps_weak (ps_raise hc tk (pmk_x F hr hg hm hdb ha (star_cons (by simpa using hs.1)) (back_plain hs.2))) fun D σ H ⟨A, ω, env, st, S, q⟩ => ?_
  unfold ex at q
  refine tA.stepS S q fun ds s1 ω1 H1 vs x1 S1 r1 q1 => ?_
  split at q1
  · rename_i hl
    rw [hx] at hl
    refine ⟨by rw [List.length_map, ← hl]; exact r1.length.symm, fun d hd => ?_⟩
    have x2 : StepN ω1 H1 ω1 (upd H1 d (.xd (((C.T.xf c).map C.T.nm).zip vs))) := (Ext.new hd).n
    have z2 := S1.sim.st.new (o := .xd (((C.T.xf c).map C.T.nm).zip vs)) hd
    exact q1 σ ω1 _ (some d) x2.s (S1.step x2 z2) ⟨_, upd_same, S1.sim.st.notL hd, xfs_of inj (r1.keep x2.keep)⟩
  · exact q1.elim
/-- the suite's frame: the exception at hand -/
def Cf.exh (C : Cf) (a : Addr) (q : Nat × List (Nat × D)) (dx : Option Addr) : Cf := { C with W := fun _ _ _ _ => False, xh := some q, dd := dx, me := { C.me with xc := some a } }
def Cf.exn (C : Cf) : Cf := { C with W := fun _ _ _ _ => False, xh := none, me := { C.me with xc := none } }
def Cf.wish (C : Cf) (W : WX) : Cf := { C with W := W }
theorem unx_get {env : List Sl} {j : Nat} {x : Sl} (h : (unx env)[j]? = some x) (hn : x ≠ .no) : env[j]? = some x ∧ x ≠ .xc := by
  unfold unx at h
  rw [List.getElem?_map] at h
  cases e : env[j]? with
  | none => rw [e] at h; cases h
  | some y =>
    rw [e] at h
    cases y with
    | xc => cases h; exact (hn rfl).elim
    | no => cases h; exact (hn rfl).elim
    | d _ => cases h; exact ⟨rfl, fun z => by cases z⟩
    | ow _ => cases h; exact ⟨rfl, fun z => by cases z⟩
theorem unx_len {env : List Sl} : (unx env).length = env.length := List.length_map _
/-- another context over the same state, its exceptions let go -/
theorem SimS.unx {B : Base} {C C' : Cf} {A : Addr → Prop} {ω : Wd} {env : List Sl} {st : Store} {σ : St} {H : Hp} (S : SimS B C A ω env st σ H) (hm : C'.me.ini = C.me.ini) (hx : XhOk B ω H C') : SimS B C' A ω (Iv.unx env) st σ H := by
  refine ⟨⟨⟨by rw [unx_len]; exact S.sim.env.len, fun j d h => ?_, fun j d h => ?_, fun j k x y b g1 g2 g3 g4 => ?_, fun j h => ?_⟩, S.sim.st, hx⟩, S.amb, fun j x b g1 g2 => ?_⟩
  · exact S.sim.env.val j d (unx_get h (by intro z; cases z)).1
  · rw [hm]; exact S.sim.env.own j d (unx_get h (by intro z; cases z)).1
  · exact S.sim.env.ne j k x y b (unx_get g1 (by intro z; cases z)).1 (unx_get g2 (by intro z; cases z)).1 g3 g4
  · exact ((unx_get h (by intro z; cases z)).2 rfl).elim
  · exact S.fr j x b (unx_get g1 (by intro z; cases z)).1 g2
/-- the exception comes into slot i -/
theorem SimS.xc {B : Base} {C : Cf} {A : Addr → Prop} {ω : Wd} {env : List Sl} {st : Store} {σ : St} {H : Hp} {i : Nat} {a : Addr} (S : SimS B C A ω (Iv.unx env) st σ H) (hm : C.me.xc = some a) : SimS B C A ω ((Iv.unx env).set i .xc) st (σ.set i (some (.ref a))) H := by
  have no : ∀ {j : Nat} {x : Sl}, ((Iv.unx env).set i .xc)[j]? = some x → x ≠ .xc → i ≠ j := fun {j x} h hx e => by
    subst e
    by_cases hlt : i < (Iv.unx env).length
    · rw [List.getElem?_set_self hlt] at h; cases h; exact hx rfl
    · rw [List.getElem?_eq_none (by simpa using hlt)] at h; cases h
  refine ⟨⟨⟨by simpa using S.sim.env.len, fun j d h => ?_, fun j d h => ?_, fun j k x y b g1 g2 g3 g4 => ?_, fun j h => ?_⟩, S.sim.st, S.sim.xh⟩, S.amb, fun j x b g1 g2 => ?_⟩
  · have n := no h (by intro z; cases z)
    rw [List.getElem?_set_ne n] at h ⊢
    exact S.sim.env.val j d h
  · have n := no h (by intro z; cases z)
    rw [List.getElem?_set_ne n] at h ⊢
    exact S.sim.env.own j d h
  · have n := no g1 (by intro z; cases z)
    have n2 := no g2 (by intro z; cases z)
    rw [List.getElem?_set_ne n] at g1 g3
    rw [List.getElem?_set_ne n2] at g2 g4
    exact S.sim.env.ne j k x y b g1 g2 g3 g4
  · by_cases e : i = j
    · subst e
      have hlt : i < (Iv.unx env).length := by
        by_cases hlt : i < (Iv.unx env).length
        · exact hlt
        · rw [List.getElem?_eq_none (by simpa using hlt)] at h; cases h
      exact ⟨a, hm, by rw [List.getElem?_set_self (by rw [← S.sim.env.len]; exact hlt)]⟩
    · rw [List.getElem?_set_ne e] at h ⊢
      exact S.sim.env.xcp j h
  · have n := no g1 (by intro z; cases z)
    rw [List.getElem?_set_ne n] at g1 g2
    exact S.fr j x b g1 g2
/-- the exception's class is one of ours -/
theorem ok_tryN {b u : List Sm} {body suite : List Stmt} {b₀ : Stmt} {nme : Str} {np pos' : Pos} (hs : X.stack = X.env :: X.outer) (hf : X.env.frame = some X.env.locals) (hN : X.N.Nodup) (hi : X.N[i]? = some nme) (hln : X.env.kindOf nme = some .local)
    (hg : Gl X x) (hm : X.mg x = some (.ref (C.T.xa c))) (hdb : (x == ("__debug__" : Str)) = false) (tk : Takes X C.W) (hxf : ∀ c', xf c' = C.T.xf c') (hxn : C.xh = none)
    (hsup : ∀ c' b, sup c' c = some b → PySem.W.exmOne X.K (.ref (C.T.xa c')) (.ref (C.T.xa c)) = some b)
    (hb : ∀ (W : WX) (pn : List (Addr × Obj)) (xe : Value → Shared → Prop), Takes (X.tr pn xe) W → PassesOwn (model X.prog X.w) X.A X.env xe → OkSs (X.tr pn xe) (C.wish W) P G sup xf b body)
    (hsu : ∀ (a : Addr) (oe : Obj) (c' : Nat) (dx : Option Addr) (fs : List (Nat × Iv.D)) (pn : List (Addr × Obj)), sup c' c = some true → Zc (.ref (C.T.xa c')) dx oe → (∃ vs, oe.data = .fields vs) → OkSs (X.suite a ((a, oe) :: pn)) (C.exh a (c', fs) dx) P G sup xf u (b₀ :: suite)) :
    OkS X C P G sup xf (.try_ b c (some i) u) (.Try body [.ExceptHandler (some (.Name x np)) (some nme) (b₀ :: suite) pos'] [] [] pos) := by
  refine ps_weak (ps_try_as (tb := fun W => tS (bs X C) (C.wish W) (exs P G sup xf C.xh b))
    (ts := fun a cls d D σ H => ∃ y : Nat × List (Nat × Iv.D), (cls = .ref (C.T.xa y.1) ∧ sup y.1 c = some true) ∧ tS (bs X C) (C.exh a y d) (exs P G sup xf (some y) u) D σ H)
    (Wout := C.W) hs hf hN hi hln ⟨hg, hdb, .inl hm⟩ tk hb fun a oe cls d pn hz hfl => pss_ex fun y hy => ?_) fun D σ H ⟨A, ω, env, st, S, q⟩ => ?_
  · obtain ⟨h1, h3⟩ := hy
    subst h1
    exact hsu a oe y.1 d y.2 pn h3 hz hfl
  · unfold ex at q
    refine ⟨A, ω, env, st, ⟨⟨S.sim.env, S.sim.st, S.sim.xh⟩, S.amb, S.fr⟩, ?_⟩
    revert q
    cases hr : exs P G sup xf C.xh b env st with
    | nx e2 s => exact fun q σ' ω' H' x S' => q σ' ω' H' x ⟨⟨S'.sim.env, S'.sim.st, S'.sim.xh⟩, S'.amb, S'.fr⟩
    | rt d s => exact fun q => q
    | stuck => exact fun q => q
    | exc c' fs env2 s =>
      intro q σ' ω' H' dx x1 S1 hx
      dsimp only at q
      cases hsc : sup c' c with
      | none => rw [hsc] at q; exact q.elim
      | some bb =>
        rw [hsc] at q
        refine ⟨bb, hsup _ _ hsc, fun hbb a ha => ?_, fun hbb => ?_⟩
        · subst hbb
          dsimp only at q
          have hxh : XhOk (bs X C) ω' H' (C.exh a (c', (xf c').zip fs) dx) := by
            show XhAt (bs X C) ω' H' dx ((xf c').zip fs)
            cases dx with
            | none => exact .inl ⟨rfl, by rw [hxf, hx.2, List.zip_nil_left]⟩
            | some dd =>
              obtain ⟨vs, h1, h2, h3⟩ := hx
              exact .inr ⟨dd, vs, rfl, h1, h2, by rw [hxf]; exact h3⟩
          have S2 : SimS (bs X C) (C.exh a (c', (xf c').zip fs) dx) A ω' ((unx env2).set i .xc) s (σ'.set i (some (.ref a))) H' := (S1.unx (C' := C.exh a (c', (xf c').zip fs) dx) rfl hxh).xc rfl
          refine ⟨(c', (xf c').zip fs), ⟨rfl, hsc⟩, A, ω', _, s, S2, ?_⟩
          have q2 := PostS.mono q x1
          show PostS (bs X C) (C.exh a (c', (xf c').zip fs) dx) A ω' H' (exs P G sup xf (some (c', (xf c').zip fs)) u ((unx env2).set i .xc) s) _
          revert q2
          cases exs P G sup xf (some (c', (xf c').zip fs)) u ((unx env2).set i .xc) s with
          | nx e3 s3 =>
            intro q2 σ3 ω3 H3 x3 S3
            exact q2 (σ3.set i none) ω3 H3 x3 (SimS.clr none (S3.unx (C' := C) rfl (by unfold XhOk; rw [hxn]; trivial)))
          | rt d s3 => exact fun q2 => q2
          | exc _ _ _ _ => exact fun q2 => q2.elim
          | stuck => exact fun q2 => q2.elim
        · subst hbb
          exact q σ' ω' H' dx x1 ⟨⟨S1.sim.env, S1.sim.st, S1.sim.xh⟩, S1.amb, S1.fr⟩ hx
/-- without a name -/
theorem ok_try0 {b u : List Sm} {body suite : List Stmt} {b₀ : Stmt} {np pos' : Pos} (hs : X.stack = X.env :: X.outer) (hf : X.env.frame = some X.env.locals)
    (hg : Gl X x) (hm : X.mg x = some (.ref (C.T.xa c))) (hdb : (x == ("__debug__" : Str)) = false) (tk : Takes X C.W) (hxn : C.xh = none)
    (hsup : ∀ c' b, sup c' c = some b → PySem.W.exmOne X.K (.ref (C.T.xa c')) (.ref (C.T.xa c)) = some b)
    (hb : ∀ (W : WX) (pn : List (Addr × Obj)) (xe : Value → Shared → Prop), Takes (X.tr pn xe) W → PassesOwn (model X.prog X.w) X.A X.env xe → OkSs (X.tr pn xe) (C.wish W) P G sup xf b body)
    (hsu : ∀ (a : Addr) (oe : Obj) (pn : List (Addr × Obj)), OkSs (X.suite a ((a, oe) :: pn)) C.exn P G sup xf u (b₀ :: suite)) :
    OkS X C P G sup xf (.try_ b c none u) (.Try body [.ExceptHandler (some (.Name x np)) none (b₀ :: suite) pos'] [] [] pos) := by
  refine ps_weak (ps_try_only (tb := fun W => tS (bs X C) (C.wish W) (exs P G sup xf C.xh b)) (ts := fun a cls d => tS (bs X C) C.exn (exs P G sup xf none u))
    (Wout := C.W) hs hf ⟨hg, hdb, .inl hm⟩ tk hb fun a oe cls d pn hz hfl => hsu a oe pn) fun D σ H ⟨A, ω, env, st, S, q⟩ => ?_
  unfold ex at q
  refine ⟨A, ω, env, st, ⟨⟨S.sim.env, S.sim.st, S.sim.xh⟩, S.amb, S.fr⟩, ?_⟩
  revert q
  cases hr : exs P G sup xf C.xh b env st with
  | nx e2 s => exact fun q σ' ω' H' x S' => q σ' ω' H' x ⟨⟨S'.sim.env, S'.sim.st, S'.sim.xh⟩, S'.amb, S'.fr⟩
  | rt d s => exact fun q => q
  | stuck => exact fun q => q
  | exc c' fs env2 s =>
    intro q σ' ω' H' dx x1 S1 hx
    dsimp only at q
    cases hsc : sup c' c with
    | none => rw [hsc] at q; exact q.elim
    | some bb =>
      rw [hsc] at q
      refine ⟨bb, hsup _ _ hsc, fun hbb a ha => ?_, fun hbb => ?_⟩
      · subst hbb
        dsimp only at q
        refine ⟨A, ω', _, s, S1.unx (C' := C.exn) rfl trivial, ?_⟩
        have q2 := PostS.mono q x1
        show PostS (bs X C) C.exn A ω' H' (exs P G sup xf none u (unx env2) s) _
        revert q2
        cases exs P G sup xf none u (unx env2) s with
        | nx e3 s3 =>
          intro q2 σ3 ω3 H3 x3 S3
          exact q2 σ3 ω3 H3 x3 (S3.unx (C' := C) rfl (by unfold XhOk; rw [hxn]; trivial))
        | rt d s3 => exact fun q2 => q2
        | exc _ _ _ _ => exact fun q2 => q2.elim
        | stuck => exact fun q2 => q2.elim
      · subst hbb
        exact q σ' ω' H' dx x1 ⟨⟨S1.sim.env, S1.sim.st, S1.sim.xh⟩, S1.amb, S1.fr⟩ hx
/-- e.f in the suite -/
theorem ok_xat {f : Nat} {a : Addr} {dx : Option Addr} {fs : List (Nat × D)} {oe : Obj} {pn : List (Addr × Obj)} {e : Expr} (T : XfC X.K (C.T.xa c)) (hno : PySem.W.findIn X.K (.ref (C.T.xa c)) (C.T.nm f) = some none)
    (hz : Zc (.ref (C.T.xa c)) dx oe) (hfl : ∃ vs, oe.data = .fields vs) (hv : PE (X.suite a ((a, oe) :: pn)) e (tVar i)) (hb : notSuper e = true) :
    OkE (X.suite a ((a, oe) :: pn)) (C.exh a (c, fs) dx) P G (.xat i f) (.Attribute e (C.T.nm f) pos) := by
  refine pe_weak (pe_xf T hno hz hfl hv (attr_base hb _)) fun σ H Q ⟨ω, env, st, S, q⟩ => ?_
  unfold ev at q
  split at q
  · rename_i gs hi hx
    obtain ⟨a', h1, h2⟩ := S.env.xcp i hi
    have h1' : some a = some a' := h1
    cases h1'
    have hx' : some (c, fs) = some gs := hx
    cases hx'
    obtain ⟨d, hd, qq⟩ := Post.lift q
    rcases (show XhAt (bs X C) ω H dx fs from S.xh) with ⟨_, h0⟩ | ⟨dd, vs, hdx, k1, k2, k3⟩
    · subst h0
      cases hd
    · obtain ⟨v, g1, g2⟩ := k3 f d hd
      exact ⟨_, h2, rfl, rfl, dd, vs, v, hdx, k1, g1, qq.here S.st v g2⟩
  · exact q.elim
/-- raise C(), a class of errors without own __init__ -/
theorem pmk_own0 {C : Addr} {bmB : List Value} {B newId initId : String} {x : Str} {p pos : Pos} (F : ExcBaseFacts B newId initId bmB) (q : PySem.W.excIn X.K C bmB newId = true) (gC : X.mg x = some (.ref C)) (kC : PySem.W.keepIn X.K (.ref C) = true) (r : Raises X (.ref C)) (hg : Gl X x)
    (hdb : (x == ("__debug__" : Str)) = false) : PMk X (.Call (.Name x p) [] [] pos) (fun _ H Q => Q (.ref C) none H) := by
  intro pins s σ H Q I h
  refine wpAny_Call_Name_kw (ld_glob I hg gC ?_ hdb)
  refine PySem.W.callWith_K0 I.kIn kC ?_
  obtain ⟨bm, N, nm, qn, bs, hdct, sn, sub, ab, col, dd, k0, k1, k2, k3, k5, mN, hC, hN, hni, T⟩ := exc_obj I.kIn q
  refine wpAny_call_exc_subT F T hC hN hni (fun h' e hm => ?_) (by show 0 ≤ sizeLine; omega)
  exact mk_of I hm r h (I.hok.gone hm.new)
end
end Iv

set_option Elab.async false
set_option linter.all false
set_option maxRecDepth 100000
set_option maxHeartbeats 4000000
/-! IvLb: isinstance of the exception at hand. -/
namespace Iv
open PySem PySem.Spec L2 PySem.W PySem.Calls
open PyProof.Rows hiding St
section
variable {prog : Program} {w : World} {A : Around} {E : Value → Shared → Prop} {s : Shared} {K : Frag} {x D : Addr} {ox : Obj} {od : Option Obj}
theorem find_data {C : Addr} {nm : Str} {a g : Value} (q1 : (clsIn K C).isSome = true) (q2 : findIn K (.ref C) nm = some (some a)) (q3 : specialIn K a "__get__" = some (some g)) (q4 : takesIn K a = some true) : findObj K C od nm = some (.bind g a) := by
  obtain ⟨k, e⟩ := Option.isSome_iff_exists.mp q1
  unfold findObj
  simp only [e, q2, q3, q4, Option.bind_some]
/-- e.__class__, whether e has a dict or none -/
theorem cls_of_exc {Q : Option Value → Shared → Prop} (Z : ExcC K D) (kin : K.In s.heap) (io : InstAt s.heap x ox D od) (fin : Q (some (.ref D)) { s with toks := s.toks + 1 }) : wpAny (model prog w) A (getAttr? (.ref x) "__class__") Q E s := by
  have some_ : (clsIn K D).isSome = true := by obtain ⟨k, e, _⟩ := any_some Z.hd; rw [e]; rfl
  have fd := find_data (od := od) some_ Z.ha Z.hn Z.ht
  obtain ⟨hp, g, d, t, os⟩ := s
  have T0 := io.type (M := model prog w)
  have T1 := looks_findIn (M := model prog w) kin Z.hg
  have T2 := looks_findIn (M := model prog w) kin Z.hk
  have T3 := looks_find (M := model prog w) kin io fd
  have isE : Looks (model prog w) hp (isInstance (.ref x) (.type "BaseException")) true := T0.andThen (looks_subIn kin Z.hs)
  have n2 : (Value.builtin "BaseException.__getattribute__" == Value.builtin "object.__getattribute__") = false := by decide +kernel
  have n1 : (onTheHeap (Value.ref D) && Value.builtin "BaseException.__getattribute__" == Value.builtin "object.__getattribute__") = false := by rw [n2] <;> rfl
  unfold getAttr? getAttrBy? getAttrBy
  refine wpAny_bind (wpAny_mkText (wpAny_bind (wpAny_attempt (wpAny_holding (wpAny_bind (T0.at (wpAny_bind (T1.at ?_))))))))
  show wpAny _ _ (if (onTheHeap (Value.ref D) && Value.builtin "BaseException.__getattribute__" == Value.builtin "object.__getattribute__") = true then _ else _) _ _ _
  rw [n1, if_neg Bool.false_ne_true]
  unfold getAttrByItsOwn hookBefore; refine wpAny_bind ?_
  rw [if_pos (show onTheHeap (Value.ref D) = true from rfl)]; refine T2.at ?_
  refine wpAny_bind (wpAny_attempt (wpAny_holding ?_)); unfold callGetattribute
  rw [show (false && onTheHeap (Value.builtin "BaseException.__getattribute__")) = false from rfl, if_neg Bool.false_ne_true]; unfold boundAndCalled
  rw [PySem.F.excAttr_ValueError.ga.bind (.ref x)]; refine wpAny_bind (wpAny_pure ?_)
  show wpAny _ _ (call (.builtin "BaseException.__getattribute__") [.ref x, .str "__class__" t]) _ _ _
  refine wpAny_call (codeAny_call_builtin PySem.F.excAttr_ValueError.ga.plain PySem.F.entry_bexc_ga ?_)
  refine @check_slot (model prog w) _ _ ⟨hp, g, d, t + 1, os⟩ "BaseException.__getattribute__" "BaseException" "__getattribute__" (.ref x) [.str "__class__" t] [] _ (by decide +kernel) (by decide +kernel) isE (PySem.F.args_bexc_ga (.ref x) (.str "__class__" t)) ?_
  unfold Builtin.«object.__getattribute__»; refine wpAny_bind (wpAny_of_eq (a := ((Value.ref x : Value), [Value.str "__class__" t])) (by first | rfl | (simp only [slotArgs]; rfl)) ?_)
  refine wpAny_bind (wpAny_pure (wpAny_bind (T0.at (wpAny_bind (T3.at ?_)))))
  show wpAny _ _ (holding [Value.builtin "object.__class__"] (call (.builtin "getset_descriptor.__get__") [.builtin "object.__class__", .ref x, .ref D]) >>= ret) _ _ _
  refine wpAny_bind (wpAny_holding (wpAny_call (class_get (s := ⟨hp, g, d, t + 1, os⟩) (ox := ox) (od := od) kin io Z.hm ?_)))
  refine wpAny_pure ?_
  show wpAny _ _ (handedOut (.ref D)) _ _ _
  rw [handedOut_of (v := .ref D) rfl]
  first
    | exact wpAny_pure (wpAny_pure fin)
    | exact wpAny_pure fin
    | exact wpAny_pure (wpAny_bind (wpAny_pure (wpAny_pure fin)))
theorem kitx_exc (Z : ExcC K D) : KitX K (.ref x) (.ref D) (fun h => InstAt h x ox D od) where
  ty := fun _ _ _ io => io.type
  it := fun _ _ kin _ => by
    obtain ⟨k, hk, _⟩ := any_some Z.hd
    unfold clsIn at hk
    split at hk
    · rename_i c' d' cd' sl' ho
      intro A' Q' E' s' keep q
      unfold isType loadHead
      exact wpAny_bind (wpAny_loadPart (keep _ _ (kin _ _ ho)) (wpAny_pure q))
    · cases hk
  ne := fun h tp dd its n sl kin htp => by
    obtain ⟨k, hk, _⟩ := any_some Z.hd
    refine Bool.eq_false_iff.mpr fun q => ?_
    have e : D = tp := Value.ref.inj (beq_iff_eq.mp q)
    subst e
    unfold clsIn at hk
    split at hk
    · rename_i c' d' cd' sl' ho
      have z := (kin _ _ ho).symm.trans htp
      cases z
    · cases hk
  ca := fun kin io q => cls_of_exc Z kin io q
end
/-- isinstance(e, c), e the exception at hand with the dict dx -/
def rIsX (K : Frag) (D a : Addr) (dx : Option Addr) : List V → Hp → VK → Prop := fun xs H Q => ∃ (c : V) (cv : Value) (b : Bool), xs = [.ref a, c] ∧ (∀ u, RelV c u → u = cv) ∧ kitOne K (.ref D) cv = some b ∧ (∀ dd, dx = some dd → ∃ fs, H dd = some (.xd fs)) ∧ Q (.bl b) H
theorem call_isX {X : Cx} {a D : Addr} {dx : Option Addr} {oe : Obj} {pn : List (Addr × Obj)} (Z : ExcC X.K D) (hz : Zc (.ref D) dx oe) (hf : ∃ vs, oe.data = .fields vs) : CallR (X.suite a ((a, oe) :: pn)) (.builtin "isinstance") (rIsX X.K D a dx) := by
  intro pins s σ H xs us Q I r h
  obtain ⟨c, cv, b, rfl, hcv, e, hd, q⟩ := h
  cases r with
  | cons rx rr =>
    cases rr with
    | cons rt rr =>
      cases rr
      cases rx
      have ec := hcv _ rt
      subst ec
      obtain ⟨hget, _⟩ := I.pin (a, oe) (List.mem_append.mpr (.inl List.mem_cons_self))
      obtain ⟨vs, hv⟩ := hf
      obtain ⟨od, J⟩ : ∃ od, InstAt s.heap a oe D od := by
        cases dx with
        | none =>
          refine ⟨none, hget, hz.1, ?_, ?_⟩
          · unfold notCls; rw [hv] <;> rfl
          · rw [hz.2]; trivial
        | some dd =>
          obtain ⟨fs, hfs⟩ := hd dd rfl
          obtain ⟨mA, hns, _⟩ : ObjOk X.prog X.w H s.heap dd (.xd fs) := I.hok dd _ hfs
          obtain ⟨od, ho, _⟩ := lookIn_ns hns
          refine ⟨some od, hget, hz.1, ?_, ?_⟩
          · unfold notCls; rw [hv] <;> rfl
          · rw [hz.2]; exact ho
      exact kia_one (kitx_exc Z) I.kIn J e (fun z => nomatch z) fun tk => ⟨.bl b, H, I.kept (t' := tk) fun _ _ z => z, rfl, q⟩
/-- a class of errors without own __init__ -/
structure PlX (K : Frag) (C : Addr) : Prop where
  ex : excIn K C [.type "ValueError", .type "Exception", .type "BaseException", .type "object"] "ValueError.__new__" = true
  kp : keepIn K (.ref C) = true
  sb : subIn K (.ref C) (.type "BaseException") = some true
  ty : typeIn K (.ref C) = some (.type "type")
def plxB (K : Frag) (C : Addr) : Bool := excIn K C [.type "ValueError", .type "Exception", .type "BaseException", .type "object"] "ValueError.__new__" && keepIn K (.ref C) && (match subIn K (.ref C) (.type "BaseException") with | some b => b | none => false) &&
  (match typeIn K (.ref C) with | some (.type t) => decide (t = "type") | _ => false)
theorem PlX.of {K : Frag} {C : Addr} (h : plxB K C = true) : PlX K C := by
  unfold plxB at h
  simp only [Bool.and_eq_true] at h
  obtain ⟨⟨⟨h1, h2⟩, h3⟩, h4⟩ := h
  refine ⟨h1, h2, ?_, ?_⟩
  · revert h3
    cases subIn K (.ref C) (.type "BaseException") with
    | none => exact fun z => by cases z
    | some b => exact fun z => by cases z; rfl
  · revert h4
    split
    · rename_i t e
      intro z
      rw [e, of_decide_eq_true z]
    · exact fun z => by cases z
/-- what isinstance asks of the class of an error -/
def excB (K : Frag) (D : Addr) : Bool := (match findIn K (.ref D) "__getattribute__" with | some (some (.builtin t)) => decide (t = "BaseException.__getattribute__") | _ => false) && (match findIn K (.ref D) "__getattr__" with | some none => true | _ => false) &&
  (match subIn K (.ref D) (.type "BaseException") with | some b => b | none => false) && hasDictIn K D && (match findIn K (.ref D) "__class__" with | some (some (.builtin t)) => decide (t = "object.__class__") | _ => false) &&
  (match specialIn K (.builtin "object.__class__") "__get__" with | some (some (.builtin t)) => decide (t = "getset_descriptor.__get__") | _ => false) && (match takesIn K (.builtin "object.__class__") with | some b => b | none => false) &&
  (match mroIn K D (.type "object") with | some b => b | none => false)
theorem ExcC.of {K : Frag} {D : Addr} (h : excB K D = true) : ExcC K D := by
  unfold excB at h
  simp only [Bool.and_eq_true] at h
  obtain ⟨⟨⟨⟨⟨⟨⟨h1, h2⟩, h3⟩, h4⟩, h5⟩, h6⟩, h7⟩, h8⟩ := h
  refine ⟨?_, ?_, ?_, h4, ?_, ?_, ?_, ?_⟩
  · revert h1; split
    · rename_i t e; intro z; rw [e, of_decide_eq_true z]
    · exact fun z => by cases z
  · revert h2; split
    · rename_i e; exact fun _ => e
    · exact fun z => by cases z
  · revert h3; split
    · rename_i b e; intro z; rw [e, z]
    · exact fun z => by cases z
  · revert h5; split
    · rename_i t e; intro z; rw [e, of_decide_eq_true z]
    · exact fun z => by cases z
  · revert h6; split
    · rename_i t e; intro z; rw [e, of_decide_eq_true z]
    · exact fun z => by cases z
  · revert h7; split
    · rename_i b e; intro z; rw [e, z]
    · exact fun z => by cases z
  · revert h8; split
    · rename_i b e; intro z; rw [e, z]
    · exact fun z => by cases z
/-- a class by its name: one of the module's, or a built-in one -/
def ClsV (Z : Str → Option Value) (y : Str) (v : Value) : Prop := (Z y = some v ∧ ∃ a, v = .ref a) ∨ (Z y = none ∧ ∃ t, v = .type t ∧ bootBuiltins y = some (.type t) ∧ y ≠ "__name__")
section
variable {X : Cx} {C : Cf} {P : Pt} {G : Fns} {sup : Nat → Nat → Option Bool} {xf : Nat → List Nat} {i t c : Nat} {x : Str} {p p2 pos pos2 : Pos}
theorem pe_clsV {y : Str} {v : Value} (hg : Gl X y) (h : ClsV X.mg y v) (hdb : (y == ("__debug__" : Str)) = false) : ∃ c : V, PE X (.Name y p2) (tC c) ∧ ∀ u, RelV c u → u = v := by
  rcases h with ⟨h1, a, rfl⟩ | ⟨h1, t, rfl, h2, h3⟩
  · exact ⟨.ref a, pe_glob hg h1 rfl hdb, fun u r => by cases r; rfl⟩
  · exact ⟨.ty t, ⟨fun _ _ _ H _ I q => ld_blt I hg h1 h2 ⟨.ty t, H, I, rfl, q⟩ h3 hdb⟩, fun u r => by cases r; rfl⟩
theorem ok_xis {a : Addr} {dx : Option Addr} {fs : List (Nat × D)} {oe : Obj} {pn : List (Addr × Obj)} {e : Expr} {y : Str} (Z : ExcC X.K (C.T.xa c)) (hk : ∀ b, P.xis c t = some b → kitOne X.K (.ref (C.T.xa c)) (C.T.xt t) = some b)
    (hz : Zc (.ref (C.T.xa c)) dx oe) (hfl : ∃ vs, oe.data = .fields vs) (hgi : Gl X "isinstance") (hmi : X.mg "isinstance" = none) (hgy : Gl X y) (hy : ClsV X.mg y (C.T.xt t)) (hdb : (y == ("__debug__" : Str)) = false)
    (hv : PE (X.suite a ((a, oe) :: pn)) e (tVar i)) (hs : isStar e = false) :
    OkE (X.suite a ((a, oe) :: pn)) (C.exh a (c, fs) dx) P G (.xis i t) (.Call (.Name "isinstance" p) [e, .Name y p2] [] pos) := by
  obtain ⟨cv, hc, hcv⟩ := pe_clsV (X := X.suite a ((a, oe) :: pn)) (p2 := p2) hgy hy hdb
  refine pe_weak (pe_callB (call_isX Z hz hfl) hgi hmi PyProof.Rows.boot_isinstance (pa_cons hv (pa_cons hc pa_nil rfl) (star_cons hs)) (by decide) (by decide) (star_cons hs) rfl) fun σ H Q ⟨ω, env, st, S, q⟩ => ?_
  unfold ev at q
  split at q
  · rename_i gs hi hx
    obtain ⟨a', h1, h2⟩ := S.env.xcp i hi
    have h1' : some a = some a' := h1
    cases h1'
    have hx' : some (c, fs) = some gs := hx
    cases hx'
    obtain ⟨d, hd, qq⟩ := Post.lift q
    obtain ⟨b, hb, rfl⟩ := Option.map_eq_some_iff.mp hd
    refine ⟨_, h2, cv, _, b, rfl, hcv, hk b hb, fun dd e => ?_, qq.here S.st _ (.bl _)⟩
    rcases (show XhAt (bs X C) ω H dx fs from S.xh) with ⟨h0, _⟩ | ⟨dd', vs, hdx, k1, _, _⟩
    · rw [h0] at e; cases e
    · rw [hdx] at e; cases e; exact ⟨vs, k1⟩
  · exact q.elim
/-- raise C() -/
theorem ok_rai0 (hc : X.calm = true) (tk : Takes X C.W) (q : PlX X.K (C.T.xa c)) (hxp : C.T.xp c = true) (hxf : C.T.xf c = []) (hx : xf c = C.T.xf c) (hg : Gl X x) (hm : X.mg x = some (.ref (C.T.xa c))) (hdb : (x == ("__debug__" : Str)) = false) :
    OkS X C P G sup xf (.rai c []) (.Raise (some (.Call (.Name x p) [] [] pos)) none pos2) := by
  refine ps_weak (ps_raise hc tk (pmk_own0 F.excBase_ValueError q.ex hm q.kp (raises_own q.sb q.ty) hg hdb)) fun D σ H ⟨A, ω, env, st, S, q⟩ => ?_
  unfold ex at q
  have e : evs P G C.xh [] env st = .ok [] st := by unfold evs; rfl
  rw [e, hx, hxf] at q
  exact q σ ω H none .refl S ⟨hxp, hxf⟩
end
end Iv

set_option Elab.async false
set_option linter.all false
set_option maxRecDepth 100000
set_option maxHeartbeats 4000000
/-! IvLc: C(k = e, ..).f, C an own class of errors. -/
namespace Iv
open PySem PySem.Spec PySem.W PySem.Calls
section
variable {M : Model} {prog : Program} {w : World} {A : Around} {E : Value → Shared → Prop} {R : Result → Shared → Prop} {h : Heap} {g : Array GenState} {d : Drawn} {t : Nat} {os : OsState}
variable {nm q : Str} {C N : Addr} {bs bm bmB : List Value} {hdct : Bool} {sn : List Str} {sub : List Value} {ab : Bool} {col : Option Bool} {dd : Option Addr} {k0 k1 k2 k3 k5 : Option Value} {B newId initId : String} {kw : List (Str × Value)}
theorem kw_check (F : ExcBaseFacts B newId initId bmB) (hT : ∀ X : String, bm.contains (.type X) = bmB.contains (.type X)) {Q : Unit → Shared → Prop}
    (at_ : h.get? C = some (excClassObj nm q C N bs bm hdct sn sub ab col dd k0 k1 k2 k3 k5 newId)) (fin : Q () ⟨h, g, d, t, os⟩) : wpAny M A (checkBuiltinCall newId ⟨[.ref C], kw⟩) Q E ⟨h, g, d, t, os⟩ := by
  have c0 : (Value.ref C :: bm).contains (.type B) = true := by rw [List.contains_cons, hT, F.hasB, Bool.or_true]
  have star := F.noStar
  simp only [checkBuiltinCall, F.newKind, F.newSplit, F.newRow]
  repeat (first | refine wpAny_loadPart_at at_ ?_ | (refine wpAny_isSubtype_exc at_ ?_; rw [c0]) | refine wpAny_staticBase_exc at_ ?_ | refine wpAny_madeBy_exc at_ ?_ | simp only [bne_self_eq_false, Bool.false_eq_true, if_false] | wp_step)
  exact fin
theorem kw_new (F : ExcBaseFacts B newId initId bmB) (hT : ∀ X : String, bm.contains (.type X) = bmB.contains (.type X))
    (at_ : h.get? C = some (excClassObj nm q C N bs bm hdct sn sub ab col dd k0 k1 k2 k3 k5 newId))
    (fin : R (.ok (.ret (.ref (h.objs.size + 1)))) ⟨(h.push (kdv_tup [])).push (HandSPX.excO C h.objs.size), g, d, t, os⟩) : codeAny (model prog w) A (.builtin newId ⟨[.ref C], kw⟩) R ⟨h, g, d, t, os⟩ := by
  have ends := F.ends
  have cB : (Value.ref C :: bm).contains (.type B) = true := by rw [List.contains_cons, hT, F.hasB, Bool.or_true]
  have cA : (Value.ref C :: bm).contains (.type "AttributeError") = false := by rw [List.contains_cons, hT, F.noAttr] <;> rfl
  have cN : (Value.ref C :: bm).contains (.type "NameError") = false := by rw [List.contains_cons, hT, F.noName] <;> rfl
  refine codeAny_builtinAt F.entry ?_
  unfold Builtin.«BaseException.__new__»; refine wpAt_bind ?_
  show wpAt _ _ _ (stack >>= _) _ _ _
  refine wpAt_bind (wpAt_stack fun p below => wpAt_of_wpAny ?_)
  wp_walk
  refine wpAt_of_wpAny ?_
  rw [F.owner]
  repeat (first | with_reducible refine wpAny_madeHere_exc F.canon at_ ?_ | with_reducible refine wpAny_loadPart_at at_ ?_ | (with_reducible refine wpAny_isSubtype_exc at_ ?_; first | rw [cB] | rw [cA] | rw [cN]) | wp_step)
  show R _ _
  rw [Heap.size_push]
  exact fin
theorem kw_type (F : ExcBaseFacts B newId initId bmB) (hT : ∀ X : String, bm.contains (.type X) = bmB.contains (.type X)) {fI : Addr} {Q : Fin → Shared → Prop}
    (at_ : h.get? C = some (excClassObj nm q C N bs bm hdct sn sub ab col dd k0 k1 k2 k3 k5 newId))
    (hi : Looks (model prog w) h (typeLookup (.ref C) "__init__") (some (.ref fI))) (hb : ∀ self, Looks (model prog w) h (bindSpecial (.ref fI) self) (.ref fI, [self]))
    (run : codeAny (model prog w) A (.call (.ref fI) ⟨[.ref (h.objs.size + 1)], kw⟩)
      (fun r s' => match r with | .ok (.ret v) => v = .none ∧ Q (.done (.ret (.ref (h.objs.size + 1)))) s' | .ok _ => False | .error e => E e s') ⟨(h.push (kdv_tup [])).push (HandSPX.excO C h.objs.size), g, d, t, os⟩) :
    wpAny (model prog w) A (Builtin.«type.__call__» ⟨[.ref C], kw⟩) Q E ⟨h, g, d, t, os⟩ := by
  repeat (first | with_reducible refine wpAny_loadPart_at at_ ?_ | with_reducible refine wpAny_madeBy_exc at_ ?_ | wp_step)
  refine codeAny_call_builtin_code (Code.quiet_builtin _ F.quiet) (kw_check F hT at_ ?_)
  refine kw_new F hT at_ ?_
  show wpAny _ _ _ _ _ _
  have keep : ∀ b o, h.get? b = some o → ((h.push (kdv_tup [])).push (HandSPX.excO C h.objs.size)).get? b = some o := fun b o e => Heap.get?_push_of_some _ (Heap.get?_push_of_some _ e)
  have at2 := keep _ _ at_
  have new_ : ((h.push (kdv_tup [])).push (HandSPX.excO C h.objs.size)).get? (h.objs.size + 1) = some (HandSPX.excO C h.objs.size) := by heap_get
  have cC : (Value.ref C :: bm).contains (.ref C) = true := by simp
  have i2 := hi.keeps keep
  have b2 := (hb (.ref (h.objs.size + 1))).keeps keep
  unfold isInstance
  repeat (first | with_reducible refine wpAny_loadPart_at new_ ?_ | (with_reducible refine wpAny_isSubtype_exc at2 ?_; rw [cC]) | wp_step)
  show wpAny _ _ (typeLookup (.ref C) _) _ _ _
  refine i2.at ?_; refine wpAny_holding (wpAny_bind (b2.at ?_))
  refine wpAny_bind (wpAny_call (codeAny_mono run fun r s' z => ?_))
  rcases r with e | (v | _ | _ | _) <;> first | exact z | exact z.elim | skip
  obtain ⟨rfl, z⟩ := z
  first | exact wpAny_pure (wpAny_pure z) | (wp_walk; exact z)
theorem kw_call (F : ExcBaseFacts B newId initId bmB) (hT : ∀ X : String, bm.contains (.type X) = bmB.contains (.type X)) {fI : Addr}
    (at_ : h.get? C = some (excClassObj nm q C N bs bm hdct sn sub ab col dd k0 k1 k2 k3 k5 newId))
    (hi : Looks (model prog w) h (typeLookup (.ref C) "__init__") (some (.ref fI))) (hb : ∀ self, Looks (model prog w) h (bindSpecial (.ref fI) self) (.ref fI, [self]))
    (run : codeAny (model prog w) (A.under (.builtin "type.__call__" ⟨[.ref C], kw⟩)) (.call (.ref fI) ⟨[.ref (h.objs.size + 1)], kw⟩) (InitBack (h.objs.size + 1) R) ⟨(h.push (kdv_tup [])).push (HandSPX.excO C h.objs.size), g, d, t, os⟩) :
    codeAny (model prog w) A (.call (.ref C) ⟨[], kw⟩) R ⟨h, g, d, t, os⟩ := by
  have f1 := tc_lookup
  have f2 := tc_bind (.ref C)
  have ty : (⟨h, g, d, t, os⟩ : Shared).TypeIs (.ref C) "type" := ⟨_, at_, rfl⟩
  refine codeAny_of_tree ?_
  show wpAny _ _ (callAny (.ref C) _) _ _ _
  repeat (any_goals (first | assumption | with_reducible refine wpAny_loadPart_at at_ ?_ | wp_step))
  refine ⟨rfl, ?_⟩
  refine codeAny_call_builtin_at (Code.quiet_builtin _ (by decide +kernel)) entry_typeCall (wpAny_check_type_call_sub at_ (kw_type F hT at_ hi hb ?_))
  refine codeAny_mono run fun r s' z => ?_
  rcases r with e | (v | _ | _ | _) <;> exact z
end
end Iv
namespace Iv
open PySem PySem.Spec L2 PySem.W PySem.Calls
open PyProof.Rows hiding St
/-- what is known of an error class: its call with these keywords makes an exception of it with these fields -/
structure FnXk (X : Cx) (C : Addr) (ks : List Str) : Prop where
  sup : X.mg "super" = none
  keep : keepIn X.K (.ref C) = true
  make : ∀ {A : Around} {R : Result → Shared → Prop} {hp : Heap} {g : Array GenState} {d : Drawn} {t : Nat} {os : OsState} {us : List Value} {mb : Str → Option Value}, us.length = ks.length → X.K.In hp → hp.NoLimit → hp.Ns mainGlobals X.mg →
    hp.Ns builtinsNs mb → mb "super" = some (.type "super") → A.depth + 1 < recursionLimit →
    (∀ h' tk e dx oe vs mA, (∀ b o, hp.get? b = some o → h'.get? b = some o) → h'.get? e = some oe → oe.cls = .ref C → oe.dict = some dx → oe.data = .fields vs →
      h'.Ns1 dx mA → (∀ f, mA f = (ks.zip us).lookup f) → R (.ok (.ret (.ref e))) ⟨h', g, d, tk, os⟩) →
    codeAny (model X.prog X.w) A (.call (.ref C) ⟨[], ks.zip us⟩) R ⟨hp, g, d, t, os⟩
theorem made_goK {prog : Program} {w : World} {K : Frag} {C fI : Addr} {mg mb : Str → Option Value} {A : Around} {R : Result → Shared → Prop} {hp : Heap} {g : Array GenState} {d : Drawn} {t : Nat} {os : OsState} {kw : List (Str × Value)} {mA : Str → Option Value}
    (cls : ∃ nm q N bs bm sn sub ab col dd k0 k1 k2 k3 k5, K.lookup C = some (excClassObj nm q C N bs bm true sn sub ab col dd k0 k1 k2 k3 k5 "ValueError.__new__") ∧ HandSPX.refsVE bm = true)
    (iC : findIn K (.ref C) "__init__" = some (some (.ref fI))) (tC : typeIn K (.ref fI) = some (.type "function")) (X : K.In hp) (hlim : hp.NoLimit) (G : hp.Ns mainGlobals mg) (Bn : hp.Ns builtinsNs mb)
    (hi : ∀ {A' : Around} {R' : Result → Shared → Prop} {hp' : Heap} {x t0 : Addr}, K.In hp' → hp'.NoLimit → hp'.Ns mainGlobals mg → hp'.Ns builtinsNs mb → hp'.get? x = some (HandSPX.excO C t0) → K.lookup x = none → A'.depth = A.depth + 1 →
      (∀ h' tk dx t1, XEnd hp' h' x C dx t1 mA → R' (.ok (.ret .none)) ⟨h', g, d, tk, os⟩) → codeAny (model prog w) A' (.call (.ref fI) ⟨[.ref x], kw⟩) R' ⟨hp', g, d, t, os⟩)
    (hq : ∀ h' tk e dx oe vs, (∀ b o, hp.get? b = some o → h'.get? b = some o) → h'.get? e = some oe → oe.cls = .ref C → oe.dict = some dx → oe.data = .fields vs → h'.Ns1 dx mA → R (.ok (.ret (.ref e))) ⟨h', g, d, tk, os⟩) :
    codeAny (model prog w) A (.call (.ref C) ⟨[], kw⟩) R ⟨hp, g, d, t, os⟩ := by
  obtain ⟨nm, q, N, bs, bm, sn, sub, ab, col, dd, k0, k1, k2, k3, k5, hC, hbm⟩ := cls
  have k : ∀ b o, hp.get? b = some o → ((hp.push (kdv_tup [])).push (HandSPX.excO C hp.objs.size)).get? b = some o := fun b o e => Heap.get?_push_of_some _ (Heap.get?_push_of_some _ e)
  have hget : ((hp.push (kdv_tup [])).push (HandSPX.excO C hp.objs.size)).get? (hp.objs.size + 1) = some (HandSPX.excO C hp.objs.size) := by heap_get
  have hnx : K.lookup (hp.objs.size + 1) = none := by
    cases e : K.lookup (hp.objs.size + 1) with
    | none => rfl
    | some o =>
      have z : hp.get? (hp.objs.size + 1) = some o := X _ _ e
      exact absurd (Nat.lt_of_succ_lt (Heap.lt_size z)) (Nat.lt_irrefl _)
  refine kw_call F.excBase_ValueError (fun Y => HandSPX.refsVE_contains Y bm hbm) (X _ _ hC) (looks_findIn X iC) (fun self => bind_fn X self tC) ?_
  refine hi (X.keeps k) (hlim.keeps k) (G.keeps k) (Bn.keeps k) hget hnx rfl fun h' tk' dx t1 M => ?_
  have old : ∀ b o, hp.get? b = some o → h'.get? b = some o := fun b o e => M.keep b o (Nat.ne_of_lt (Nat.lt_succ_of_lt (Heap.lt_size e))) (k b o e)
  exact ⟨rfl, hq h' tk' (hp.objs.size + 1) dx _ _ old M.obj rfl rfl rfl M.ns⟩
theorem fnXk1 {X : Cx} {C fI cc cda : Addr} {qual : Str} {scope : Scope} {params : Arguments} {n : Str} {a0 a1 a2 a3 a4 a5 b0 b1 b2 b3 : Pos} (hs : X.mg "super" = none) (T : XTxt X.prog X.K C fI cc cda qual scope params (xB1 n a0 a1 a2 a3 a4 a5 b0 b1 b2 b3) [n]) (hl : (a2.endLine == a4.line) = true)
    (hbind : ∀ s kV doc pm an ct x v, BindsTo s (ksFn "__init__" qual params (xB1 n a0 a1 a2 a3 a4 a5 b0 b1 b2 b3) scope .none kV doc pm an (.ref cda) ct cc) ⟨[.ref x], [(n, v)]⟩ [("self", .ref x), (n, v)]) : FnXk X C [n] := by
  refine ⟨hs, T.kC, fun {A R hp g d t os us mb} hlen hK hlim G Bn hmb hroom hq => ?_⟩
  obtain ⟨v, rfl⟩ : ∃ v, us = [v] := by
    match us, hlen with
    | [v], _ => exact ⟨v, rfl⟩
  refine made_goK T.cls T.iC T.tC hK hlim G Bn (mA := fun y => if y = n then some v else none) (fun {A' R' hp' x t0} X' l' G' B' hx hnx hd hq' => ?_) fun h' tk e dx oe vs k1 k2 k3 k4 k5 k6 => hq h' tk e dx oe vs _ k1 k2 k3 k4 k5 k6 look1
  exact x_init1 rfl T hl X' l' G' hs B' hmb hx hnx (by rw [hd]; exact hroom) (fun s kV doc pm an ct => hbind s kV doc pm an ct x v) hq'
theorem look2r {n n2 : Str} {v v2 : Value} (hnn : n ≠ n2) (f : Str) : (if f = n2 then some v2 else if f = n then some v else none) = ([n2, n].zip [v2, v]).lookup f := by
  show _ = List.lookup f [(n2, v2), (n, v)]
  rw [List.lookup_cons, List.lookup_cons]
  by_cases e : f = n2
  · rw [show (f == n2) = true from by simpa using e, if_pos e]
  · rw [show (f == n2) = false from by simpa using e, if_neg e]
    by_cases e2 : f = n
    · rw [if_pos e2, show (f == n) = true from by simpa using e2]
    · rw [if_neg e2, show (f == n) = false from by simpa using e2]; rfl
theorem fnXk2 {X : Cx} {C fI cc cda : Addr} {qual : Str} {scope : Scope} {params : Arguments} {n n2 : Str} {a0 a1 a2 a3 a6 a4 a5 b0 b1 b2 b3 c0 c1 c2 c3 : Pos} {ks : List Str} (hk : ks = [n, n2] ∨ ks = [n2, n]) (hs : X.mg "super" = none) (T : XTxt X.prog X.K C fI cc cda qual scope params (xB2 n n2 a0 a1 a2 a3 a6 a4 a5 b0 b1 b2 b3 c0 c1 c2 c3) [n, n2]) (hnn : n ≠ n2) (hl : (a2.endLine == a4.line) = true)
    (hbind : ∀ s kV doc pm an ct x v v2 kw, (kw = [(n, v), (n2, v2)] ∨ kw = [(n2, v2), (n, v)]) → BindsTo s (ksFn "__init__" qual params (xB2 n n2 a0 a1 a2 a3 a6 a4 a5 b0 b1 b2 b3 c0 c1 c2 c3) scope .none kV doc pm an (.ref cda) ct cc) ⟨[.ref x], kw⟩ [("self", .ref x), (n, v), (n2, v2)]) : FnXk X C ks := by
  rcases hk with rfl | rfl
  · refine ⟨hs, T.kC, fun {A R hp g d t os us mb} hlen hK hlim G Bn hmb hroom hq => ?_⟩
    obtain ⟨v, v2, rfl⟩ : ∃ v v2, us = [v, v2] := by
      match us, hlen with
      | [v, v2], _ => exact ⟨v, v2, rfl⟩
    refine made_goK T.cls T.iC T.tC hK hlim G Bn (mA := fun y => if y = n2 then some v2 else if y = n then some v else none) (fun {A' R' hp' x t0} X' l' G' B' hx hnx hd hq' => ?_) fun h' tk e dx oe vs k1 k2 k3 k4 k5 k6 => hq h' tk e dx oe vs _ k1 k2 k3 k4 k5 k6 (look2 hnn)
    exact x_init2 rfl T hnn hl X' l' G' hs B' hmb hx hnx (by rw [hd]; exact hroom) (fun s kV doc pm an ct => hbind s kV doc pm an ct x v v2 _ (.inl rfl)) hq'
  · refine ⟨hs, T.kC, fun {A R hp g d t os us mb} hlen hK hlim G Bn hmb hroom hq => ?_⟩
    obtain ⟨v2, v, rfl⟩ : ∃ v2 v, us = [v2, v] := by
      match us, hlen with
      | [v2, v], _ => exact ⟨v2, v, rfl⟩
    refine made_goK T.cls T.iC T.tC hK hlim G Bn (mA := fun y => if y = n2 then some v2 else if y = n then some v else none) (fun {A' R' hp' x t0} X' l' G' B' hx hnx hd hq' => ?_) fun h' tk e dx oe vs k1 k2 k3 k4 k5 k6 => hq h' tk e dx oe vs _ k1 k2 k3 k4 k5 k6 (look2r hnn)
    exact x_init2 rfl T hnn hl X' l' G' hs B' hmb hx hnx (by rw [hd]; exact hroom) (fun s kV doc pm an ct => hbind s kV doc pm an ct x v v2 _ (.inr rfl)) hq'
/-- C(k = e, ..).f -/
def tXkf (ks : List Str) (f : Str) (tk : TA) : TE := fun σ H Q => tk σ H fun vs H1 => vs.length = ks.length ∧ ∃ v, (ks.zip vs).lookup f = some v ∧ Q v H1
section
variable {X : Cx} {C : Cf} {P : Pt} {G : Fns} {c n : Nat} {x : Str} {p pos apos : Pos} {kws : List Keyword} {tk : TA} {ks : List Str} {D : Addr} {f : Str}
theorem pe_xkf (F : FnXk X D ks) (T : XfC X.K D) (hno : findIn X.K (.ref D) f = some none) (hr : Room (n + 1) X.A) (hg : Gl X x) (hm : X.mg x = some (.ref D)) (hdb : (x == ("__debug__" : Str)) = false) (hk : PK X kws tk)
    (hks : (backToKw pos (keywordEach kws X.env)).filterMap (·.1) = ks) (hall : (backToKw pos (keywordEach kws X.env)).all (·.1.isSome) = true) (hnone : (backToKw pos (keywordEach kws X.env)).any (·.1.isNone) = false)
    (hb : attributeBase (.Call (.Name x p) [] kws pos) f X.env (eval (.Call (.Name x p) [] kws pos) X.env) = eval (.Call (.Name x p) [] kws pos) X.env) : PE X (.Attribute (.Call (.Name x p) [] kws pos) f apos) (tXkf ks f tk) := by
  refine ⟨fun pins s σ H Q I h => ?_⟩
  refine attr_of hb ?_
  refine wpAny_Call_Name_kw (ld_glob I hg hm ?_ hdb)
  refine callWith_KW0 (h₀ := X.base) I.ok.mod.kin F.keep hall (thn (hk.run pos pins s σ H _ I h) fun us s1 ⟨vs, H1, I1, r1, hl, v, hv, q1⟩ => ⟨I1.kIn, ?_⟩) (by rw [hnone]; rfl)
  rw [hks]
  show wpAny _ _ (call (.ref D) [] (ks.zip us)) _ _ _
  have hlim := I1.nolimit
  obtain ⟨mb, b1, b2⟩ := I1.mod.blt
  have hG : s1.heap.Ns mainGlobals X.mg := I1.mod.glob.keeps I1.bk
  have hB : s1.heap.Ns builtinsNs mb := b1.keeps I1.bk
  have hbm : mb "super" = some (.type "super") := (b2 _ (by decide)).trans (by first | kernel_rfl | rfl | boot_by_name)
  obtain ⟨hp, g, dr, tk, os⟩ := s1
  refine wpAny_call (F.make (us := us) (by rw [← Paired.length r1]; exact hl) I1.kIn hlim hG hB hbm (by have := hr.dp; omega) fun h' tk' e dx oe fv mA k1 hoe hc hd hdat hns hma => ?_)
  have I2 : Inv X pins σ H1 ⟨h', g, dr, tk', os⟩ := I1.kept (t' := tk') k1
  have hx : ObjOk X.prog X.w (upd H1 dx (.xd (ks.zip vs))) h' dx (.xd (ks.zip vs)) := ⟨mA, hns, fun y => by rw [hma y]; exact zip_rel r1 y⟩
  obtain ⟨od, ho, hlk⟩ := lookIn_ns hns
  obtain ⟨u, hu, ru⟩ := RelO.some_of (v := v) (o := mA f) (by rw [← hv, hma f]; exact zip_rel r1 f)
  have J : InstAt h' e oe D (some od) := ⟨hoe, hc, by unfold notCls; rw [hdat] <;> rfl, by rw [hd]; exact ho⟩
  exact HandSPX.exc_get I2.kIn J T.ga T.gg T.exC (findObj_own T.hdC hno rfl (by rw [hlk, hu])) (handed_of ru) ⟨v, H1, I2.tok _, ru, q1⟩
theorem ok_xkf {ns : List Nat} {is : List Ex} {fn : Nat} (inj : ∀ a b, C.T.nm a = C.T.nm b → a = b) (F : FnXk X D (ns.map C.T.nm)) (T : XfC X.K D) (hno : findIn X.K (.ref D) (C.T.nm fn) = some none) (hr : Room (n + 1) X.A) (hg : Gl X x) (hm : X.mg x = some (.ref D)) (hdb : (x == ("__debug__" : Str)) = false)
    (hk : PK X kws (tA (bs X C) C (evs P G C.xh is)))
    (hks : (backToKw pos (keywordEach kws X.env)).filterMap (·.1) = ns.map C.T.nm) (hall : (backToKw pos (keywordEach kws X.env)).all (·.1.isSome) = true) (hnone : (backToKw pos (keywordEach kws X.env)).any (·.1.isNone) = false)
    (hb : attributeBase (.Call (.Name x p) [] kws pos) (C.T.nm fn) X.env (eval (.Call (.Name x p) [] kws pos) X.env) = eval (.Call (.Name x p) [] kws pos) X.env) : OkE X C P G (.xkf c ns is fn) (.Attribute (.Call (.Name x p) [] kws pos) (C.T.nm fn) apos) := by
  refine pe_weak (pe_xkf F T hno hr hg hm hdb hk hks hall hnone hb) fun σ H Q ⟨ω, env, st, S, q⟩ => ?_
  unfold ev at q
  refine tA.step S q fun ds s1 ω1 H1 vs e1 S1 r1 q1 => ?_
  split at q1
  · rename_i hl
    obtain ⟨d, hd, qq⟩ := Post.lift q1
    refine ⟨by rw [List.length_map, ← hl]; exact r1.length.symm, ?_⟩
    obtain ⟨v, hv, rv⟩ := xfs_of inj r1 fn d hd
    exact ⟨v, hv, qq.here S1.st v rv⟩
  · exact q1.elim
theorem pk_weak {t t' : TA} (h : PK X kws t) (w : ∀ σ H Q, t' σ H Q → t σ H Q) : PK X kws t' := ⟨fun pos pins s σ H Q I q => h.run pos pins s σ H Q I (w _ _ _ q)⟩
theorem okk_nil : PK X [] (tA (bs X C) C (evs P G C.xh [])) := pk_weak pk_nil fun σ H Q ⟨ω, env, st, S, q⟩ => by unfold evs at q; exact q.here S.st _ .nil
theorem okk_cons {ia : Ex} {is : List Ex} {a : Expr} {nm : Option Str} {kpos : Pos} (ha : OkE X C P G ia a) (hs : PK X kws (tA (bs X C) C (evs P G C.xh is))) : PK X (⟨nm, a, kpos⟩ :: kws) (tA (bs X C) C (evs P G C.xh (ia :: is))) := by
  refine pk_weak (pk_cons ha hs) fun σ H Q ⟨ω, env, st, S, q⟩ => ?_
  unfold evs at q
  refine tI.step S q fun x s1 ω1 H1 vx e1 S1 r1 q1 => ?_
  refine tA.step S1 q1 fun y s2 ω2 H2 vy e2 S2 r2 q2 => ?_
  exact q2.here S2.st _ (.cons (r1.keep e2.keep) r2)
end
end Iv

set_option Elab.async false
set_option linter.all false
set_option maxRecDepth 100000
set_option maxHeartbeats 4000000
/-! IvM: repr(..), list(range(..)). -/
namespace Iv
open PySem PySem.Spec L2
open PyProof.Rows hiding St
section
variable {X : Cx} {C : Cf} {P : Pt} {G : Fns} {a b e : Expr} {ia ib : Ex} {p p2 pos pos2 : Pos}
def rRepr (K : PySem.W.Frag) : List V → Hp → VK → Prop := fun vs H Q => ∃ v d, vs = [v] ∧ Dp K H v d ∧ d.showable = true ∧ d.hasDict = false ∧ d.depth ≤ 60 ∧ d.shown.length ≤ sizeLine ∧ Q (.str d.shown) H
theorem call_reprD (hg : X.A.guards = some []) (hu : X.A.units + 200 < cLine) : CallR X (.builtin "repr") (rRepr X.K) := by
  intro pins s σ H xs us Q I r h
  obtain ⟨v, d, rfl, hd, h1, h2, h3, h4, q⟩ := h
  obtain ⟨u, rfl, ru⟩ := vals1 r
  obtain ⟨as, R⟩ := Dp.reads I d v u hd ru
  cases hd with
  | non => cases ru; exact PySem.P.repr_of_none ⟨.str _, H, I.tok _, ⟨_, rfl⟩, q⟩
  | bl b => cases ru; exact PySem.P.repr_of_bool ⟨.str _, H, I.tok _, ⟨_, rfl⟩, q⟩
  | int i =>
    obtain ⟨t, rfl⟩ := ru
    exact PySem.P.repr_of_int (by simpa [PyData.showable] using h1) ⟨.str _, H, I.tok _, ⟨_, rfl⟩, q⟩
  | str x =>
    obtain ⟨t, rfl⟩ := ru
    exact PySem.P.repr_of_str ⟨.str _, H, I.tok _, ⟨_, rfl⟩, q⟩ h4
  | lst _ _ =>
    cases ru
    exact repr_of_reads' R h1 (PyData.noDict_hsm h2) hg (by omega) (fun _ _ z => z) (fun h' u tk k => ⟨.str _, H, I.kept k, ⟨_, rfl⟩, q⟩) h4
  | tup _ _ =>
    cases ru
    exact repr_of_reads' R h1 (PyData.noDict_hsm h2) hg (by omega) (fun _ _ z => z) (fun h' u tk k => ⟨.str _, H, I.kept k, ⟨_, rfl⟩, q⟩) h4
theorem ok_rpr (hgr : X.A.guards = some []) (hu : X.A.units + 200 < cLine) (hg : Gl X "repr") (hm : X.mg "repr" = none) (hs : isStar a = false) (ha : OkW X C P G ia a) : OkE X C P G (.rpr ia) (.Call (.Name "repr" p) [a] [] pos) := by
  refine pe_weak (pe_callB (call_reprD hgr hu) hg hm PyProof.Rows.boot_repr (pa_cons ha pa_nil (star_cons hs)) (by decide) (by decide) (star_cons hs) rfl) fun σ H Q ⟨ω, env, st, S, q⟩ => ?_
  unfold ev at q
  refine tW.step S q fun x s1 ω1 H1 vx e1 S1 r1 q1 => ?_
  obtain ⟨d, e, pp⟩ := q1.lift
  unfold rprD at e
  split at e
  · rename_i y hy
    split at e
    · rename_i h
      simp only [Bool.and_eq_true, Bool.not_eq_true', decide_eq_true_eq] at h
      obtain ⟨⟨⟨h1, h2⟩, h3⟩, h4⟩ := h
      cases e
      exact ⟨vx, y, rfl, dpv_of (der_vw r1 S1.st) hy, h1, h2, h3, fits_le h4, pp.here S1.st _ (.str _)⟩
    · cases e
  · cases e
theorem ok_lrn (hc : X.calm = true) (hg : Gl X "list") (hm : X.mg "list" = none) (hg2 : Gl X "range") (hm2 : X.mg "range" = none) (hs : isStar a = false) (hsb : isStar b = false) (ha : OkE X C P G ia a) (hb : OkE X C P G ib b) :
    OkE X C P G (.lrn ia ib) (.Call (.Name "list" p) [.Call (.Name "range" p2) [a, b] [] pos2] [] pos) := by
  refine pe_weak (pe_listRg hc hg hm (prg_2 hg2 hm2 ha hb (star_cons hs) (star_cons hsb) (back_plain (es := [b]) (by rw [List.all_cons, hsb]; rfl))) rfl) fun σ H Q ⟨ω, env, st, S, q⟩ => ?_
  unfold ev at q
  refine tI.step S q fun x s1 ω1 H1 vx e1 S1 r1 q1 => ?_
  refine tI.step S1 q1 fun y s2 ω2 H2 vy e2 S2 r2 q2 => ?_
  have r1' := r1.keep e2.keep
  split at q2
  · rename_i i j
    split at q2
    · rename_i hf
      cases r1'
      cases r2
      obtain ⟨d, e, pp⟩ := q2.lift
      unfold rngD at e
      split at e
      · rename_i h
        simp only [Bool.and_eq_true, decide_eq_true_eq] at h
        cases e
        refine ⟨i, j, rfl, rfl, ⟨h.1.1.1, h.1.1.2, h.1.2, h.2, fits_le hf⟩, fun q hq => ?_⟩
        refine pp.new S2.st (p := q) (o := .lst (rgV i j)) hq _ (rel_newL S2.st hq ?_)
        unfold rgV
        have : ∀ l : List Nat, RelDs (bs X C) ω2 H2 (l.map fun (k : Nat) => D.int (i + k)) (l.map fun (k : Nat) => V.int (i + k)) := fun l => by
          induction l with
          | nil => exact .nil
          | cons a l ih => exact .cons (.int _) ih
        exact this _
      · cases e
    · exact q2.elim
  · exact q2.elim
end
end Iv

set_option Elab.async false
set_option linter.all false
set_option maxRecDepth 100000
set_option maxHeartbeats 4000000
/-! IvN: a check that the small language's term is a given piece of syntax; what it gives: expressions. -/
namespace Iv
open PySem PySem.Spec L2
open PyProof.Rows hiding St

/-- what a program's names mean -/
structure Tb where
  fns : List (Str × Nat)
  cls : List (Str × Nat)
  xcs : List (Str × Nat)
  gls : List (Str × Nat)
  blt : List Str
  nms : List Str
  xfs : List Nat
  xps : List (Str × Nat) := []
  xts : List (Str × Nat) := []
  xks : List (Nat × List Nat) := []
/-- what is fixed for all defs -/
structure Core where
  prog : Program
  w : World
  K : PySem.W.Frag
  mg : Str → Option Value
  base : Heap
def coreOf (X : Cx) : Core := ⟨X.prog, X.w, X.K, X.mg, X.base⟩
structure GF (tb : Tb) (Z : Core) (T : Tab) (P : Pt) (G : Fns) (sup : Nat → Nat → Option Bool) (xf : Nat → List Nat) (n : Nat) : Prop where
  inj : ∀ a b, T.nm a = T.nm b → a = b
  nm : ∀ i x, tb.nms[i]? = some x → T.nm i = x
  fns : ∀ x f, tb.fns.lookup x = some f → Z.mg x = some (.ref (T.fa f)) ∧ ∀ X, coreOf X = Z → FnF X T n f [] (spF ⟨Z.K, T⟩ (G.call f))
  cls : ∀ x c, tb.cls.lookup x = some c → Z.mg x = some (.ref (T.ca c)) ∧ ∀ X, coreOf X = Z → FnM X T n c [] (spI ⟨Z.K, T⟩ c (G.make c))
  meth : ∀ c m f, P.meth c m = some f → Cls Z.K (T.ca c) ∧ Meth Z.K (T.ca c) (T.nm m) (T.fa f) ∧ ∀ X, coreOf X = Z → FnF X T n f [] (spF ⟨Z.K, T⟩ (G.call f))
  isFn : ∀ f, P.isFn f = true → ∀ X, coreOf X = Z → FnF X T n f [] (spF ⟨Z.K, T⟩ (G.call f))
  isAt : ∀ c m, P.isAt c m = true → Cls Z.K (T.ca c) ∧ NoAttr Z.K (T.ca c) (T.nm m)
  own : ∀ c, P.own c = true → OwnC Z.K (T.ca c)
  eqf : ∀ c f, P.eqf c = some f → OwnC Z.K (T.ca c) ∧ Meth Z.K (T.ca c) "__eq__" (T.fa f) ∧ ∀ X, coreOf X = Z → FnF X T n f [] (spF ⟨Z.K, T⟩ (G.call f))
  xcs : ∀ x c, tb.xcs.lookup x = some c → Z.mg x = some (.ref (T.xa c)) ∧ ∀ X, coreOf X = Z → FnX X (T.xa c) ((T.xf c).map T.nm)
  xfc : ∀ c' c, sup c' c = some true → XfC Z.K (T.xa c')
  xno : ∀ c' c f, sup c' c = some true → f ∈ tb.xfs → PySem.W.findIn Z.K (.ref (T.xa c')) (T.nm f) = some none
  xfe : ∀ c, xf c = T.xf c
  xps : ∀ x c, tb.xps.lookup x = some c → Z.mg x = some (.ref (T.xa c)) ∧ T.xp c = true ∧ T.xf c = [] ∧ PlX Z.K (T.xa c)
  xex : ∀ c' c b, sup c' c = some b → tb.xts ≠ [] → ExcC Z.K (T.xa c')
  xis : ∀ c t b, P.xis c t = some b → PySem.W.kitOne Z.K (.ref (T.xa c)) (T.xt t) = some b
  xts : ∀ y t, tb.xts.lookup y = some t → ClsV Z.mg y (T.xt t)
  xks : ∀ c ns, (c, ns) ∈ tb.xks → XfC Z.K (T.xa c) ∧ (∀ f ∈ tb.xfs, PySem.W.findIn Z.K (.ref (T.xa c)) (T.nm f) = some none) ∧ ∀ X, coreOf X = Z → FnXk X (T.xa c) (ns.map T.nm)
  sup : ∀ c' c b, sup c' c = some b → PySem.W.exmOne Z.K (.ref (T.xa c')) (.ref (T.xa c)) = some b
  gls : ∀ x k, tb.gls.lookup x = some k → ∃ v u d, Z.mg x = some u ∧ RelV v u ∧ P.gl k = some d ∧ ∀ ω H, RelD ⟨Z.K, T⟩ ω H d v
  blt : ∀ x, x ∈ tb.blt → Z.mg x = none
/-- where the check stands -/
structure TC where
  tb : Tb
  N : List Str
  sc : Scope
  fn : Str → Bool
  calm : Bool
  suit : Bool
structure Fit (tc : TC) (X : Cx) (C : Cf) (P : Pt) (G : Fns) (sup : Nat → Nat → Option Bool) (xf : Nat → List Nat) (n : Nat) : Prop where
  core : GF tc.tb (coreOf X) C.T P G sup xf n
  N : X.N = tc.N
  nd : tc.N.Nodup
  sc : X.env.scope = tc.sc
  fn : ∀ x, tc.fn x = true → X.fn x = true
  calm : tc.calm = true → X.calm = true ∧ Rm (n + 1) X.A
  tk : Takes X C.W
  units : X.A.units + 200 < cLine
  grd : X.A.guards = some []
  xat : tc.suit = true → ∀ (i f : Nat) (e : Expr) (pos : Pos), PE X e (tVar i) → notSuper e = true → f ∈ tc.tb.xfs → OkE X C P G (.xat i f) (.Attribute e (C.T.nm f) pos)
  xis : tc.suit = true → ∀ (i t : Nat) (e : Expr) (y : Str) (p p2 pos : Pos), PE X e (tVar i) → isStar e = false → Gl X "isinstance" → X.mg "isinstance" = none → Gl X y → (y == ("__debug__" : Str)) = false → tc.tb.xts.lookup y = some t → OkE X C P G (.xis i t) (.Call (.Name "isinstance" p) [e, .Name y p2] [] pos)

/-! ### names -/
def kindIs (k : NameKind) : Option NameKind → Bool
  | some j => j == k
  | none => false
def visB (sc : Scope) (x : Str) : Bool := match sc.names.lookup x with
  | some .local => true
  | some .cell => true
  | some .free => true
  | _ => false
def glB (sc : Scope) (x : Str) : Bool := match sc.names.lookup x with
  | some .globalImplicit => true
  | _ => false
def locB (sc : Scope) (x : Str) : Bool := match sc.names.lookup x with
  | some .local => true
  | _ => false
/-- a name that may be stored -/
def stoB (tc : TC) (x : Str) : Bool := match tc.sc.names.lookup x with
  | some .local => true
  | some .cell => tc.fn x
  | _ => false
def dbgB (x : Str) : Bool := !(x == ("__debug__" : Str))
def varB (tc : TC) (i : Nat) (x : Str) : Bool := decide (tc.N[i]? = some x) && visB tc.sc x && dbgB x && !(x == ("__classdict__" : Str))
def noStar (es : List Expr) : Bool := es.all fun e => !isStar e
def plainIxB : Expr → Bool
  | .Slice .. => false
  | .Tuple .. => false
  | _ => true
def plainT : Expr → Bool
  | .UnaryOp .Not _ _ => false
  | .BoolOp .. => false
  | .IfExp .. => false
  | .Compare .. => false
  | _ => true
def bfN : Bf → Option (Str × Bool × Bool)
  | .len => some ("len", false, false)
  | .tuple => some ("tuple", true, false)
  | .list => some ("list", true, false)
  | .max => some ("max", false, true)
  | .min => some ("min", false, true)
  | .sum => some ("sum", false, true)
  | .abs => some ("abs", false, false)
  | .int => some ("int", true, false)
  | .all => some ("all", false, true)
  | .any => some ("any", false, true)
  | _ => none
def tyNm : Ty → Str
  | .int => "int" | .bool => "bool" | .str => "str" | .list => "list" | .tuple => "tuple"
def bltB (tc : TC) (x : Str) : Bool := decide (x ∈ tc.tb.blt) && glB tc.sc x && dbgB x
/-- the types in an isinstance -/
def tysB (tc : TC) : List Ty → List Expr → Bool
  | [], [] => true
  | t :: ts, .Name x _ :: es => decide (x = tyNm t) && bltB tc x && tysB tc ts es
  | _, _ => false
def litB : D → Expr → Bool
  | .int i, .Constant (.int j) _ _ => decide (i = j)
  | .str i, .Constant (.str j) _ _ => decide (i = j)
  | .bl i, .Constant (.bool j) _ _ => decide (i = j)
  | .non, .Constant .none _ _ => true
  | _, _ => false
/-- a target -/
def tgB (tc : TC) : Tg → Expr → Bool
  | .nm i, .Name x _ => decide (tc.N[i]? = some x) && stoB tc x
  | .tp is, .Tuple es _ _ => tc.calm && decide (is.length = es.length) && (is.zip es).all fun p => match p.2 with
    | .Name x _ => decide (tc.N[p.1]? = some x) && stoB tc x
    | _ => false
  | _, _ => false
def ownOf (tc : TC) (is : List Nat) : List (Str × Nat) := is.map fun i => ((tc.N[i]?).getD "", i)
def blkTC (tc : TC) (scope : Scope) : TC := { tc with sc := relS scope tc.sc, fn := fun x => match scope.names.lookup x with | some .cell => true | _ => false, suit := false }
def isTupE : Expr → Bool
  | .Tuple .. => true
  | _ => false
def notSet : Expr → Bool
  | .Set .. => false
  | _ => true
/-- what a walk wants of its target -/
def tgOk : Ex → Expr → Bool
  | .enm _, e => isTupE e
  | .zip _ _, e => isTupE e
  | _, _ => true
/-- as a value, as a test, as what a loop runs over -/
inductive Md where | E | T | I
def Md.b : Md → Md
  | .T => .T
  | _ => .E
mutual
/-- the term is that expression -/
def trE : TC → Md → Ex → Expr → Bool
  | tc, _, .nil, _ => false
  | tc, _, .var i, e => (match e with | .Name x _ => varB tc i x | _ => false)
  | tc, _, .lit d, e => litB d e
  | tc, _, .glb k, e => (match e with | .Name x _ => decide (tc.tb.gls.lookup x = some k) && glB tc.sc x && dbgB x | _ => false)
  | tc, _, .bin o a b, e => (match e with | .BinOp x p y _ => decide (p = aOp o) && trE tc .E a x && trE tc .E b y | _ => false)
  | tc, _, .neg a, e => (match e with | .UnaryOp .USub x _ => trE tc .E a x | _ => false)
  | tc, _, .cmp o a b, e => (match e with | .Compare x [p] [y] _ => decide (p = aCm o) && trE tc .E a x && trE tc .E b y && !behindInMarks (aCm o) y | _ => false)
  | tc, _, .chn o o2 a b c, e => (match e with | .Compare x [p, p2] [y, z] _ => decide (p = aCm o) && decide (p2 = aCm o2) && trE tc .E a x && trE tc .E b y && trE tc .E c z && !lastMarks [aCm o, aCm o2] [y, z] | _ => false)
  | tc, m, .not a, e => (match e with | .UnaryOp .Not x _ => trE tc m.b a x | _ => false)
  | tc, m, .and a b, e => (match e with | .BoolOp .And (x :: y :: r) p => trE tc m.b a x && trE tc m.b b (.BoolOp .And (y :: r) p) | _ => false)
  | tc, m, .or a b, e => (match e with | .BoolOp .Or (x :: y :: r) p => trE tc m.b a x && trE tc m.b b (.BoolOp .Or (y :: r) p) | _ => false)
  | tc, m, .one a, e => (match e with | .BoolOp _ [x] _ => trE tc m.b a x | _ => false)
  | tc, m, .ite t a b, e => (match m with | .T => false | _ => (match e with | .IfExp x y z _ => trE tc .T t x && trE tc .E a y && trE tc .E b z | _ => false))
  | tc, _, .call f as, e => (match e with | .Call (.Name x _) es [] _ => tc.calm && decide (tc.tb.fns.lookup x = some f) && glB tc.sc x && dbgB x && noStar es && decide (as.length = es.length) && trA tc as es | _ => false)
  | tc, _, .callv i as, e => (match e with | .Call (.Name x _) (a :: es) [] _ => tc.calm && varB tc i x && noStar (a :: es) && trA tc as (a :: es) | _ => false)
  | tc, _, .mk c as, e => (match e with | .Call (.Name x _) es [] _ => tc.calm && decide (tc.tb.cls.lookup x = some c) && glB tc.sc x && dbgB x && noStar es && decide (as.length = es.length) && trA tc as es | _ => false)
  | tc, _, .meth o m as, e => (match e with | .Call (.Attribute x y p) es [] q => tc.calm && decide (tc.tb.nms[m]? = some y) && notSuper x && noStar es && decide (es.length < 20) && (p.endLine == q.line) && decide (as.length = es.length) && trE tc .E o x && trA tc as es | _ => false)
  | tc, _, .bf b as, e => (match e with | .Call (.Name x _) (a :: es) [] _ => (match bfN b with | some (y, _, c) => decide (x = y) && bltB tc x && (!c || tc.calm) && noStar (a :: es) && trA tc as (a :: es) | none => false) | _ => false)
  | tc, _, .bm o m as, e => false
  | tc, _, .isi a ts, e => (match e with
      | .Call (.Name x _) [y, z] [] _ => decide (x = ("isinstance" : Str)) && bltB tc x && !isStar y && trE tc .E a y && (match z with
        | .Tuple es _ _ => tysB tc ts es && fits ts.length
        | .Name q p => (match ts with | [t] => tysB tc [t] [.Name q p] | _ => false)
        | _ => false)
      | _ => false)
  | tc, _, .isc a c, e => (match e with
      | .Call (.Name x _) [y, .Name q _] [] _ => decide (x = ("isinstance" : Str)) && bltB tc x && !isStar y && decide (tc.tb.cls.lookup q = some c) && glB tc.sc q && dbgB q && trE tc .E a y
      | _ => false)
  | tc, _, .att o f, e => (match e with | .Attribute x y _ => decide (tc.tb.nms[f]? = some y) && notSuper x && trE tc .E o x | _ => false)
  | tc, _, .idx o i, e => (match e with | .Subscript x y _ => plainIxB y && trE tc .E o x && trE tc .E i y | _ => false)
  | tc, _, .slc o lo hi, e => (match e with | .Subscript x (.Slice l h none _) _ => trE tc .E o x && (match l with | none => (match lo with | .nil => true | _ => false) | some l => trE tc .E lo l) && (match h with | none => (match hi with | .nil => true | _ => false) | some h => trE tc .E hi h) | _ => false)
  | tc, _, .tup as, e => (match e with | .Tuple es _ _ => noStar es && trA tc as es | _ => false)
  | tc, _, .lst as, e => (match e with | .List es _ => noStar es && trA tc as es | _ => false)
  | tc, _, .cpr elt own tg it ifs, e => (match e with
      | .ListComp x [⟨t, i, fs, 0⟩] scope _ => tc.calm && notSet i && (tg.sl.all fun k => decide (k ∈ own)) && blkC tc.N tc.sc scope (ownOf tc own) && trE tc .I it i && tgOk it t && tgB (blkTC tc scope) tg t && trE (blkTC tc scope) .E elt x &&
        (match fs with | [] => (match ifs with | .nil => true | _ => false) | [f] => trE (blkTC tc scope) .T ifs f | _ => false)
      | _ => false)
  | tc, m, .rng a b, e => (match m with
      | .I => (match e with
        | .Call (.Name x _) [y] [] _ => (match a with | .lit (.int 0) => decide (x = ("range" : Str)) && bltB tc x && !isStar y && trE tc .E b y | _ => false)
        | .Call (.Name x _) [y, z] [] _ => decide (x = ("range" : Str)) && bltB tc x && !isStar y && !isStar z && trE tc .E a y && trE tc .E b z
        | _ => false)
      | _ => false)
  | tc, m, .enm a, e => (match m with
      | .I => (match e with
        | .Call (.Name x _) [y] [] _ => decide (x = ("enumerate" : Str)) && bltB tc x && !isStar y && trE tc .E a y
        | _ => false)
      | _ => false)
  | tc, m, .zip a b, e => (match m with
      | .I => (match e with
        | .Call (.Name x _) [y, z] [] _ => decide (x = ("zip" : Str)) && bltB tc x && !isStar y && !isStar z && trE tc .E a y && trE tc .E b z
        | _ => false)
      | _ => false)
  | tc, _, .xat i f, e => (match e with | .Attribute (.Name x _) y _ => tc.suit && varB tc i x && decide (tc.tb.nms[f]? = some y) && decide (f ∈ tc.tb.xfs) | _ => false)
  | tc, _, .xis i t, e => (match e with | .Call (.Name z _) [.Name x _, .Name y _] [] _ => tc.suit && decide (z = ("isinstance" : Str)) && bltB tc z && varB tc i x && glB tc.sc y && dbgB y && decide (tc.tb.xts.lookup y = some t) | _ => false)
  | tc, _, .xkf c ns as f, e => (match e with
      | .Attribute (.Call (.Name x _) [] [⟨some a, e1, _⟩] _) y _ => tc.calm && decide (tc.tb.xcs.lookup x = some c) && glB tc.sc x && dbgB x && decide (tc.tb.nms[f]? = some y) && decide (f ∈ tc.tb.xfs) && decide ((c, ns) ∈ tc.tb.xks) &&
        decide (ns.map (fun i => tc.tb.nms[i]?) = [some a]) && !isStar e1 && trA tc as [e1]
      | .Attribute (.Call (.Name x _) [] [⟨some a, e1, _⟩, ⟨some b, e2, _⟩] _) y _ => tc.calm && decide (tc.tb.xcs.lookup x = some c) && glB tc.sc x && dbgB x && decide (tc.tb.nms[f]? = some y) && decide (f ∈ tc.tb.xfs) && decide ((c, ns) ∈ tc.tb.xks) &&
        decide (ns.map (fun i => tc.tb.nms[i]?) = [some a, some b]) && !isStar e1 && !isStar e2 && trA tc as [e1, e2]
      | _ => false)
  | tc, _, .rpr a, e => (match e with | .Call (.Name x _) [y] [] _ => decide (x = ("repr" : Str)) && bltB tc x && !isStar y && trE tc .E a y | _ => false)
  | tc, _, .lrn a b, e => (match e with | .Call (.Name x _) [.Call (.Name y _) [u, v] [] _] [] _ => tc.calm && decide (x = ("list" : Str)) && bltB tc x && decide (y = ("range" : Str)) && bltB tc y && !isStar u && !isStar v && trE tc .E a u && trE tc .E b v | _ => false)
  | tc, _, .oeq n a b, e => (match e with
      | .Compare x [p] [y] _ => tc.calm && decide (p = if n then .NotEq else .Eq) && trE tc .E a x && trE tc .E b y && !behindInMarks (if n then .NotEq else .Eq) y
      | _ => false)
def trA : TC → List Ex → List Expr → Bool
  | tc, [], es => es.isEmpty
  | tc, a :: as, es => (match es with | x :: r => trE tc .E a x && trA tc as r | [] => false)
end
example : trE ⟨⟨[],[],[],[],[],[],[],[],[],[]⟩, [], default, fun _ => true, true, false⟩ .E (.neg (.lit (.int 1))) (.UnaryOp .USub (.Constant (.int 1) 0 ⟨0,0,0,0⟩) ⟨0,0,0,0⟩) = true := by decide +kernel
example : trE ⟨⟨[],[],[],[],[],[],[],[],[],[]⟩, [], default, fun _ => true, true, false⟩ .E (.neg (.lit (.int 1))) (.UnaryOp .USub (.Constant (.int 1) 0 ⟨0,0,0,0⟩) ⟨0,0,0,0⟩) = true := rfl
end Iv

set_option Elab.async false
set_option linter.all false
set_option maxRecDepth 100000
set_option maxHeartbeats 4000000
/-! IvO: the check of expressions is sound. -/
namespace Iv
open PySem PySem.Spec L2
open PyProof.Rows hiding St
section
variable {tc : TC} {X : Cx} {C : Cf} {P : Pt} {G : Fns} {sup : Nat → Nat → Option Bool} {xf : Nat → List Nat} {n : Nat} {e : Expr} {i : Ex}
/-- what the check gives -/
structure ClE (X : Cx) (C : Cf) (P : Pt) (G : Fns) (i : Ex) (e : Expr) : Prop where
  ok : OkE X C P G i e
  v : ∀ k, i = .var k → PE X e (tVar k)
theorem ClE.w (h : ClE X C P G i e) : OkW X C P G i e := ok_brw h.ok h.v
structure ClT (X : Cx) (C : Cf) (P : Pt) (G : Fns) (i : Ex) (e : Expr) : Prop where
  t : OkT X C P G i e
  w : ∀ op vs p, e = .BoolOp op vs p → PW X e (tT (bs X C) C fun env st => tst (ev P G C.xh i env st))
structure ClI (X : Cx) (C : Cf) (P : Pt) (G : Fns) (i : Ex) (e : Expr) : Prop where
  c : ∀ tg, tgOk i tg = true → OkI X C P G tg i e
  s : ∀ tg, tgOk i tg = true → OkIs X C P G tg i e
def Cl (X : Cx) (C : Cf) (P : Pt) (G : Fns) : Md → Ex → Expr → Prop
  | .E, i, e => ClE X C P G i e
  | .T, i, e => ClT X C P G i e
  | .I, i, e => ClI X C P G i e
theorem Cl.of (h : ClE X C P G i e) (hb : ∀ op vs p, e ≠ .BoolOp op vs p) (hT : ∀ whole, isTrue e X.env whole = (do let v ← whole; standAt e.pos; holding [v] (truthy v))) : ∀ m, Cl X C P G m i e
  | .E => h
  | .T => ⟨okT_val h.ok hT, fun op vs p z => (hb op vs p z).elim⟩
  | .I => ⟨fun tg _ => oki_seq h.w, fun tg _ => okis_seq h.ok⟩
/-- a value or what a loop runs over -/
theorem Cl.ofE (h : ClE X C P G i e) : ∀ m, m ≠ .T → Cl X C P G m i e
  | .E, _ => h
  | .I, _ => ⟨fun tg _ => oki_seq h.w, fun tg _ => okis_seq h.ok⟩
  | .T, z => (z rfl).elim
theorem ClE.plain (h : OkE X C P G i e) (hn : ∀ k, i ≠ .var k) : ClE X C P G i e := ⟨h, fun k z => (hn k z).elim⟩

/-! ### names -/
theorem fit_vis (F : Fit tc X C P G sup xf n) {x : Str} (h : visB tc.sc x = true) : Vis X.env.scope x := by
  rw [F.sc]
  unfold visB at h
  split at h <;> first | exact .inl (by assumption) | exact .inr (.inl (by assumption)) | exact .inr (.inr (by assumption)) | cases h
theorem fit_gl (F : Fit tc X C P G sup xf n) {x : Str} (h : glB tc.sc x = true) : Gl X x := by
  show X.env.scope.names.lookup x = some .globalImplicit
  rw [F.sc]
  unfold glB at h
  split at h
  · assumption
  · cases h
theorem fit_sto (F : Fit tc X C P G sup xf n) {x : Str} (h : stoB tc x = true) : Loc X.env.scope x ∧ (X.fn x = true ∨ X.env.scope.names.lookup x = some .local) := by
  rw [F.sc]
  unfold stoB at h
  split at h
  · exact ⟨.inl (by assumption), .inr (by assumption)⟩
  · exact ⟨.inr (by assumption), .inl (F.fn x h)⟩
  · cases h
theorem dbg_ok {x : Str} (h : dbgB x = true) : (x == ("__debug__" : Str)) = false := by
  unfold dbgB at h
  simpa using h
theorem fit_var (F : Fit tc X C P G sup xf n) {k : Nat} {x : Str} {p : Pos} (h : varB tc k x = true) : X.N[k]? = some x ∧ Vis X.env.scope x ∧ (x == ("__debug__" : Str)) = false ∧ (x == ("__classdict__" : Str)) = false := by
  unfold varB at h
  simp only [Bool.and_eq_true, decide_eq_true_eq] at h
  obtain ⟨⟨⟨h1, h2⟩, h3⟩, h4⟩ := h
  exact ⟨by rw [F.N]; exact h1, fit_vis F h2, dbg_ok h3, by simpa using h4⟩
theorem fit_pv (F : Fit tc X C P G sup xf n) {k : Nat} {x : Str} {p : Pos} (h : varB tc k x = true) : PE X (.Name x p) (tVar k) := by
  obtain ⟨h1, h2, h3, h4⟩ := fit_var F (p := p) h
  exact pe_var h1 h2 h3 h4
theorem fit_blt (F : Fit tc X C P G sup xf n) {x : Str} (h : bltB tc x = true) : Gl X x ∧ X.mg x = none ∧ (x == ("__debug__" : Str)) = false := by
  unfold bltB at h
  simp only [Bool.and_eq_true, decide_eq_true_eq] at h
  obtain ⟨⟨h1, h2⟩, h3⟩ := h
  exact ⟨fit_gl F h2, F.core.blt x h1, dbg_ok h3⟩
theorem star_no {e : Expr} (h : (!isStar e) = true) : isStar e = false := by simpa using h
theorem noStar_cons {e : Expr} {es : List Expr} (h : noStar (e :: es) = true) : isStar e = false ∧ noStar es = true := by
  unfold noStar at h ⊢
  rw [List.all_cons, Bool.and_eq_true] at h
  exact ⟨by simpa using h.1, h.2⟩
theorem boot_ty : ∀ ty : Ty, bootBuiltins (tyNm ty) = some (.type (tyN ty))
  | .int => PyProof.Rows.boot_int
  | .bool => PyProof.Rows.boot_bool
  | .str => PyProof.Rows.boot_str
  | .list => PyProof.Rows.boot_list
  | .tuple => PyProof.Rows.boot_tuple
theorem fit_ty (F : Fit tc X C P G sup xf n) {ty : Ty} {p : Pos} (h : bltB tc (tyNm ty) = true) : PE X (.Name (tyNm ty) p) (tC (.ty (tyN ty))) := by
  obtain ⟨h1, h2, h3⟩ := fit_blt F h
  exact ⟨fun _ _ _ H _ I q => ld_blt I h1 h2 (boot_ty ty) ⟨.ty (tyN ty), H, I, rfl, q⟩ (by cases ty <;> decide) h3⟩
theorem fit_tys (F : Fit tc X C P G sup xf n) : ∀ {ts : List Ty} {es : List Expr}, tysB tc ts es = true → PA X es (tTys ts)
  | [], [], _ => pa_nil
  | t :: ts, [], h => by cases h
  | [], _ :: _, h => by cases h
  | t :: ts, e :: es, h => by
    cases e with
    | Name x p =>
      simp only [tysB, Bool.and_eq_true, decide_eq_true_eq] at h
      obtain ⟨⟨rfl, h2⟩, h3⟩ := h
      exact pa_ty (fit_ty F h2) (fit_tys F h3) rfl
    | _ => cases h
theorem lit_ok {d : D} {e : Expr} (h : litB d e = true) : OkE X C P G (.lit d) e := by
  unfold litB at h
  split at h
  · rw [decide_eq_true_eq] at h; subst h; exact ok_lit pe_int fun _ _ => .int _
  · rw [decide_eq_true_eq] at h; subst h; exact ok_lit pe_str fun _ _ => .str _
  · rw [decide_eq_true_eq] at h; subst h; exact ok_lit pe_bl fun _ _ => .bl _
  · exact ok_lit pe_non fun _ _ => .non
  · cases h
theorem fit_tg (F : Fit tc X C P G sup xf n) {t : Tg} {e : Expr} (h : tgB tc t e = true) : PG X e (gT X.K t) := by
  have nd : X.N.Nodup := by rw [F.N]; exact F.nd
  cases t with
  | nm k =>
    cases e with
    | Name x p =>
      simp only [tgB, Bool.and_eq_true, decide_eq_true_eq] at h
      obtain ⟨h1, h2⟩ := fit_sto F h.2
      exact pg_nm nd (by rw [F.N]; exact h.1) h1 h2
    | _ => cases h
  | tp is =>
    cases e with
    | Tuple es k p =>
      simp only [tgB, Bool.and_eq_true, decide_eq_true_eq] at h
      obtain ⟨⟨hc, hl⟩, ha⟩ := h
      refine pg_tp (F.calm hc).1 nd ?_
      clear hc
      revert hl ha
      induction is generalizing es with
      | nil =>
        intro ha hl
        cases es with
        | nil => exact .nil
        | cons e es => cases hl
      | cons j is ih =>
        intro ha hl
        cases es with
        | nil => cases hl
        | cons e es =>
          rw [List.zip_cons_cons, List.all_cons, Bool.and_eq_true] at ha
          refine .cons ?_ (ih es ha.2 (by simpa using hl))
          have h0 := ha.1
          cases e with
          | Name x p =>
            simp only [Bool.and_eq_true, decide_eq_true_eq] at h0
            obtain ⟨h1, h2⟩ := fit_sto F h0.2
            exact ⟨x, p, rfl, by rw [F.N]; exact h0.1, h1, h2⟩
          | _ => cases h0
    | _ => cases h
theorem own_map {tc : TC} (is : List Nat) : (ownOf tc is).map (·.2) = is := by
  unfold ownOf
  rw [List.map_map]
  show is.map (fun i => i) = is
  exact List.map_id' is
/-- the block of a comprehension -/
theorem fit_blk (F : Fit tc X C P G sup xf n) {scope : Scope} {s : Shared} {H : Hp} {Ca : Addr} {cl : List (Str × Addr)} {fp : List Addr} : Fit (blkTC tc scope) (X.blk s H scope (compEnvC scope cl Ca X.env) fp) C.blk P G sup xf n :=
  { core := F.core, N := F.N, nd := F.nd, calm := F.calm, tk := takes0, units := F.units, grd := F.grd
    sc := by
      show relS scope X.env.scope = relS scope tc.sc
      rw [F.sc]
    fn := fun x h => by
      show (scope.names.lookup x == some .cell) = true
      have h' : (match scope.names.lookup x with | some .cell => true | _ => false) = true := h
      split at h'
      · rename_i e; rw [e]; rfl
      · cases h'
    xat := fun z => by cases z
    xis := fun z => by cases z }
theorem bf_rule (F : Fit tc X C P G sup xf n) {b : Bf} {y : Str} {b1 c : Bool} (hb : bfN b = some (y, b1, c)) (hc : (!c || tc.calm) = true) {is : List Ex} {es : List Expr} {p pos : Pos} (hg : bltB tc y = true) (hs : noStar (e :: es) = true)
    (ha : OkB X C P G is (e :: es)) : OkE X C P G (.bf b is) (.Call (.Name y p) (e :: es) [] pos) := by
  obtain ⟨h1, h2, h3⟩ := fit_blt F hg
  cases b <;> simp only [bfN, Option.some.injEq, Prod.mk.injEq, reduceCtorEq] at hb
  all_goals obtain ⟨rfl, rfl, rfl⟩ := hb
  · exact ok_bfB len_ok h1 h2 PySem.boot_len (by decide) h3 hs ha
  · exact ok_bfT tuple_ok h1 h2 PyProof.Rows.boot_tuple (by decide) h3 hs ha
  · exact ok_bfT list_ok h1 h2 PyProof.Rows.boot_list (by decide) h3 hs ha
  · exact ok_bfB (max_ok (F.calm (by simpa using hc)).1) h1 h2 PyProof.Rows.boot_max (by decide) h3 hs ha
  · exact ok_bfB (min_ok (F.calm (by simpa using hc)).1) h1 h2 PyProof.Rows.boot_min (by decide) h3 hs ha
  · exact ok_bfB (sum_ok (F.calm (by simpa using hc)).1) h1 h2 (by decide +kernel) (by decide) h3 hs ha
  · exact ok_bfB abs_ok h1 h2 PyProof.Rows.boot_abs (by decide) h3 hs ha
  · exact ok_bfT int_ok h1 h2 PyProof.Rows.boot_int (by decide) h3 hs ha
  · exact ok_bfB (all_ok (F.calm (by simpa using hc)).1) h1 h2 (by decide +kernel) (by decide) h3 hs ha
  · exact ok_bfB (any_ok (F.calm (by simpa using hc)).1) h1 h2 (by decide +kernel) (by decide) h3 hs ha
theorem ix_plain {k : Expr} (h : plainIxB k = true) : PlainIx k := by
  intro o i
  cases k <;> first | rfl | cases h
structure ClA (X : Cx) (C : Cf) (P : Pt) (G : Fns) (is : List Ex) (es : List Expr) : Prop where
  a : OkA X C P G is es
  b : OkB X C P G is es
  n : is.length = es.length
  v : ∀ i e, is = [i] → es = [e] → ClE X C P G i e
  k : ∀ kws : List Keyword, kws.map (·.value) = es → PK X kws (tA (bs X C) C (evs P G C.xh is))
theorem Cl.E {m : Md} (h : Cl X C P G m i e) (hm : m = .E) : ClE X C P G i e := by subst hm; exact h
mutual
theorem tr_ok : ∀ (i : Ex) {tc : TC} {X : Cx} {C : Cf} (F : Fit tc X C P G sup xf n) (m : Md) (e : Expr), trE tc m i e = true → Cl X C P G m i e
  | .nil, tc, X, C, F, m, e, h => by simp only [trE] at h; cases h
  | .var k, tc, X, C, F, m, e, h => by
    simp only [trE] at h
    split at h
    · rename_i x p
      have hv := fit_pv F (p := p) h
      exact Cl.of ⟨ok_var hv, fun k z => by cases z; exact hv⟩ (by first | (intro op vs p z; cases z) | (intro k z; cases z) | (intro whole; rfl)) (by first | (intro op vs p z; cases z) | (intro k z; cases z) | (intro whole; rfl)) m
    · cases h
  | .lit d, tc, X, C, F, m, e, h => by
    simp only [trE] at h
    have hb : ∀ op vs p, e ≠ .BoolOp op vs p := fun op vs p z => by subst z; unfold litB at h; split at h <;> first | (rename_i z; cases z) | cases h
    refine Cl.of (.plain (lit_ok h) (by first | (intro op vs p z; cases z) | (intro k z; cases z) | (intro whole; rfl))) hb ?_ m
    unfold litB at h
    split at h <;> first | (intro whole; rfl) | cases h
  | .glb k, tc, X, C, F, m, e, h => by
    simp only [trE] at h
    split at h
    · rename_i x p
      simp only [Bool.and_eq_true, decide_eq_true_eq] at h
      obtain ⟨⟨h1, h2⟩, h3⟩ := h
      obtain ⟨v, u, d, k1, k2, k3, k4⟩ := F.core.gls x k h1
      exact Cl.of (.plain (ok_glb k3 (pe_glob (fit_gl F h2) k1 k2 (dbg_ok h3)) k4) (by first | (intro op vs p z; cases z) | (intro k z; cases z) | (intro whole; rfl))) (by first | (intro op vs p z; cases z) | (intro k z; cases z) | (intro whole; rfl)) (by first | (intro op vs p z; cases z) | (intro k z; cases z) | (intro whole; rfl)) m
    · cases h
  | .bin o a b, tc, X, C, F, m, e, h => by
    simp only [trE] at h
    split at h
    · simp only [Bool.and_eq_true, decide_eq_true_eq] at h
      obtain ⟨⟨rfl, h1⟩, h2⟩ := h
      exact Cl.of (.plain (ok_bin (ClE.w (tr_ok a F .E _ h1)) (ClE.w (tr_ok b F .E _ h2))) (by first | (intro op vs p z; cases z) | (intro k z; cases z) | (intro whole; rfl))) (by first | (intro op vs p z; cases z) | (intro k z; cases z) | (intro whole; rfl)) (by first | (intro op vs p z; cases z) | (intro k z; cases z) | (intro whole; rfl)) m
    · cases h
  | .neg a, tc, X, C, F, m, e, h => by
    simp only [trE] at h
    split at h
    · exact Cl.of (.plain (ok_neg (ClE.ok (tr_ok a F .E _ h))) (by first | (intro op vs p z; cases z) | (intro k z; cases z) | (intro whole; rfl))) (by first | (intro op vs p z; cases z) | (intro k z; cases z) | (intro whole; rfl)) (by first | (intro op vs p z; cases z) | (intro k z; cases z) | (intro whole; rfl)) m
    · cases h
  | .cmp o a b, tc, X, C, F, m, e, h => by
    simp only [trE] at h
    split at h
    · simp only [Bool.and_eq_true, decide_eq_true_eq, Bool.not_eq_true'] at h
      obtain ⟨⟨⟨rfl, h1⟩, h2⟩, h3⟩ := h
      have ha := ClE.w (tr_ok a F .E _ h1)
      have hb := ClE.w (tr_ok b F .E _ h2)
      cases m with
      | T => exact ⟨okT_cmp F.units ha hb h3, by intro op vs p z; cases z⟩
      | E => exact Cl.ofE (.plain (ok_cmp F.units ha hb h3) (by first | (intro op vs p z; cases z) | (intro k z; cases z) | (intro whole; rfl))) .E (by intro z; cases z)
      | I => exact Cl.ofE (.plain (ok_cmp F.units ha hb h3) (by first | (intro op vs p z; cases z) | (intro k z; cases z) | (intro whole; rfl))) .I (by intro z; cases z)
    · cases h
  | .chn o o2 a b c, tc, X, C, F, m, e, h => by
    simp only [trE] at h
    split at h
    · simp only [Bool.and_eq_true, decide_eq_true_eq, Bool.not_eq_true'] at h
      obtain ⟨⟨⟨⟨⟨rfl, rfl⟩, h1⟩, h2⟩, h3⟩, h4⟩ := h
      have ha := ClE.ok (tr_ok a F .E _ h1)
      have hb := ClE.ok (tr_ok b F .E _ h2)
      have hc := ClE.ok (tr_ok c F .E _ h3)
      cases m with
      | T => exact ⟨okT_chn F.units ha hb hc h4, by intro op vs p z; cases z⟩
      | E => exact Cl.ofE (.plain (ok_chn F.units ha hb hc h4) (by first | (intro op vs p z; cases z) | (intro k z; cases z) | (intro whole; rfl))) .E (by intro z; cases z)
      | I => exact Cl.ofE (.plain (ok_chn F.units ha hb hc h4) (by first | (intro op vs p z; cases z) | (intro k z; cases z) | (intro whole; rfl))) .I (by intro z; cases z)
    · cases h
  | .not a, tc, X, C, F, m, e, h => by
    simp only [trE] at h
    split at h
    · cases m with
      | T => exact ⟨okT_not (ClT.t (tr_ok a F .T _ h)), by intro op vs p z; cases z⟩
      | E => exact Cl.ofE (.plain (ok_not (ClE.ok (tr_ok a F .E _ h))) (by first | (intro op vs p z; cases z) | (intro k z; cases z) | (intro whole; rfl))) .E (by intro z; cases z)
      | I => exact Cl.ofE (.plain (ok_not (ClE.ok (tr_ok a F .E _ h))) (by first | (intro op vs p z; cases z) | (intro k z; cases z) | (intro whole; rfl))) .I (by intro z; cases z)
    · cases h
  | .and a b, tc, X, C, F, m, e, h => by
    simp only [trE] at h
    split at h
    · simp only [Bool.and_eq_true] at h
      obtain ⟨h1, h2⟩ := h
      cases m with
      | T =>
        have hb := ClT.w (tr_ok b F .T _ h2) _ _ _ rfl
        have hp := okT_and (ClT.t (tr_ok a F .T _ h1)) hb
        exact ⟨hp.pt, fun op vs p z => by cases z; exact hp⟩
      | E => exact Cl.ofE (.plain (ok_and (ClE.ok (tr_ok a F .E _ h1)) (ClE.ok (tr_ok b F .E _ h2))) (by first | (intro op vs p z; cases z) | (intro k z; cases z) | (intro whole; rfl))) .E (by intro z; cases z)
      | I => exact Cl.ofE (.plain (ok_and (ClE.ok (tr_ok a F .E _ h1)) (ClE.ok (tr_ok b F .E _ h2))) (by first | (intro op vs p z; cases z) | (intro k z; cases z) | (intro whole; rfl))) .I (by intro z; cases z)
    · cases h
  | .or a b, tc, X, C, F, m, e, h => by
    simp only [trE] at h
    split at h
    · simp only [Bool.and_eq_true] at h
      obtain ⟨h1, h2⟩ := h
      cases m with
      | T =>
        have hb := ClT.w (tr_ok b F .T _ h2) _ _ _ rfl
        have hp := okT_or (ClT.t (tr_ok a F .T _ h1)) hb
        exact ⟨hp.pt, fun op vs p z => by cases z; exact hp⟩
      | E => exact Cl.ofE (.plain (ok_or (ClE.ok (tr_ok a F .E _ h1)) (ClE.ok (tr_ok b F .E _ h2))) (by first | (intro op vs p z; cases z) | (intro k z; cases z) | (intro whole; rfl))) .E (by intro z; cases z)
      | I => exact Cl.ofE (.plain (ok_or (ClE.ok (tr_ok a F .E _ h1)) (ClE.ok (tr_ok b F .E _ h2))) (by first | (intro op vs p z; cases z) | (intro k z; cases z) | (intro whole; rfl))) .I (by intro z; cases z)
    · cases h
  | .one a, tc, X, C, F, m, e, h => by
    simp only [trE] at h
    split at h
    · rename_i op x p
      cases m with
      | T =>
        have ha := ClT.t (tr_ok a F .T _ h)
        cases op with
        | And => exact ⟨(okT_oneA ha).pt, fun op vs p z => by cases z; exact okT_oneA ha⟩
        | Or => exact ⟨(okT_oneO ha).pt, fun op vs p z => by cases z; exact okT_oneO ha⟩
      | E => exact Cl.ofE (.plain (ok_one (ClE.ok (tr_ok a F .E _ h))) (by first | (intro op vs p z; cases z) | (intro k z; cases z) | (intro whole; rfl))) .E (by intro z; cases z)
      | I => exact Cl.ofE (.plain (ok_one (ClE.ok (tr_ok a F .E _ h))) (by first | (intro op vs p z; cases z) | (intro k z; cases z) | (intro whole; rfl))) .I (by intro z; cases z)
    · cases h
  | .ite t a b, tc, X, C, F, m, e, h => by
    cases m with
    | T => simp only [trE] at h; cases h
    | E =>
      simp only [trE] at h
      split at h
      · simp only [Bool.and_eq_true] at h
        obtain ⟨⟨h1, h2⟩, h3⟩ := h
        exact Cl.ofE (.plain (ok_ite (ClT.t (tr_ok t F .T _ h1)) (ClE.ok (tr_ok a F .E _ h2)) (ClE.ok (tr_ok b F .E _ h3))) (by first | (intro op vs p z; cases z) | (intro k z; cases z) | (intro whole; rfl))) .E (by intro z; cases z)
      · cases h
    | I =>
      simp only [trE] at h
      split at h
      · simp only [Bool.and_eq_true] at h
        obtain ⟨⟨h1, h2⟩, h3⟩ := h
        exact Cl.ofE (.plain (ok_ite (ClT.t (tr_ok t F .T _ h1)) (ClE.ok (tr_ok a F .E _ h2)) (ClE.ok (tr_ok b F .E _ h3))) (by first | (intro op vs p z; cases z) | (intro k z; cases z) | (intro whole; rfl))) .I (by intro z; cases z)
      · cases h
  | .call f as, tc, X, C, F, m, e, h => by
    simp only [trE] at h
    split at h
    · simp only [Bool.and_eq_true, decide_eq_true_eq] at h
      obtain ⟨⟨⟨⟨⟨⟨h1, h2⟩, h3⟩, h4⟩, h5⟩, h6⟩, h7⟩ := h
      obtain ⟨k1, k2⟩ := F.core.fns _ _ h2
      exact Cl.of (.plain (ok_call (k2 X rfl) F.tk ((F.calm h1).2.mono (Nat.le_succ _)) (fit_gl F h3) k1 (dbg_ok h4) h5 h6 (tr_oks as F _ h5 h7).a) (by first | (intro op vs p z; cases z) | (intro k z; cases z) | (intro whole; rfl))) (by first | (intro op vs p z; cases z) | (intro k z; cases z) | (intro whole; rfl)) (by first | (intro op vs p z; cases z) | (intro k z; cases z) | (intro whole; rfl)) m
    · cases h
  | .callv k as, tc, X, C, F, m, e, h => by
    simp only [trE] at h
    split at h
    · rename_i x p a es q
      simp only [Bool.and_eq_true, decide_eq_true_eq] at h
      obtain ⟨⟨⟨h1, h2⟩, h5⟩, h7⟩ := h
      obtain ⟨k1, k2, k3, k4⟩ := fit_var F (p := p) h2
      exact Cl.of (.plain (ok_callv (fun f hf => F.core.isFn f hf X rfl) F.tk ((F.calm h1).2.mono (Nat.le_succ _)) k1 k2 k3 k4 h5 (tr_oks as F _ h5 h7).a) (by first | (intro op vs p z; cases z) | (intro k z; cases z) | (intro whole; rfl))) (by first | (intro op vs p z; cases z) | (intro k z; cases z) | (intro whole; rfl)) (by first | (intro op vs p z; cases z) | (intro k z; cases z) | (intro whole; rfl)) m
    · cases h
  | .mk c as, tc, X, C, F, m, e, h => by
    simp only [trE] at h
    split at h
    · simp only [Bool.and_eq_true, decide_eq_true_eq] at h
      obtain ⟨⟨⟨⟨⟨⟨h1, h2⟩, h3⟩, h4⟩, h5⟩, h6⟩, h7⟩ := h
      obtain ⟨k1, k2⟩ := F.core.cls _ _ h2
      exact Cl.of (.plain (ok_mk (k2 X rfl) F.tk (F.calm h1).2 (fit_gl F h3) k1 (dbg_ok h4) h5 h6 (tr_oks as F _ h5 h7).a) (by first | (intro op vs p z; cases z) | (intro k z; cases z) | (intro whole; rfl))) (by first | (intro op vs p z; cases z) | (intro k z; cases z) | (intro whole; rfl)) (by first | (intro op vs p z; cases z) | (intro k z; cases z) | (intro whole; rfl)) m
    · cases h
  | .meth o y as, tc, X, C, F, m, e, h => by
    simp only [trE] at h
    split at h
    · simp only [Bool.and_eq_true, decide_eq_true_eq] at h
      obtain ⟨⟨⟨⟨⟨⟨⟨⟨h1, h2⟩, h3⟩, h4⟩, h5⟩, h6⟩, h7⟩, h8⟩, h9⟩ := h
      have e2 := F.core.nm _ _ h2
      subst e2
      exact Cl.of (.plain (ok_meth F.core.inj (fun c f hf => ⟨(F.core.meth c y f hf).1, (F.core.meth c y f hf).2.1, (F.core.meth c y f hf).2.2 X rfl⟩) F.tk ((F.calm h1).2.mono (Nat.le_succ _)) h3 h4 h5 h6 h7 (ClE.ok (tr_ok o F .E _ h8)) (tr_oks as F _ h4 h9).a) (by first | (intro op vs p z; cases z) | (intro k z; cases z) | (intro whole; rfl))) (by first | (intro op vs p z; cases z) | (intro k z; cases z) | (intro whole; rfl)) (by first | (intro op vs p z; cases z) | (intro k z; cases z) | (intro whole; rfl)) m
    · cases h
  | .bf b as, tc, X, C, F, m, e, h => by
    simp only [trE] at h
    split at h
    · split at h
      · rename_i y b1 c hb
        simp only [Bool.and_eq_true, decide_eq_true_eq] at h
        obtain ⟨⟨⟨⟨rfl, h2⟩, h3⟩, h4⟩, h5⟩ := h
        exact Cl.of (.plain (bf_rule F hb h3 h2 h4 (tr_oks as F _ h4 h5).b) (by first | (intro op vs p z; cases z) | (intro k z; cases z) | (intro whole; rfl))) (by first | (intro op vs p z; cases z) | (intro k z; cases z) | (intro whole; rfl)) (by first | (intro op vs p z; cases z) | (intro k z; cases z) | (intro whole; rfl)) m
      · cases h
    · cases h
  | .bm o y as, tc, X, C, F, m, e, h => by simp only [trE] at h; cases h
  | .isi a ts, tc, X, C, F, m, e, h => by
    simp only [trE] at h
    split at h
    · rename_i x p y z q
      simp only [Bool.and_eq_true, decide_eq_true_eq] at h
      obtain ⟨⟨⟨⟨rfl, h2⟩, h3⟩, h4⟩, h5⟩ := h
      obtain ⟨k1, k2, k3⟩ := fit_blt F h2
      have ha := ClE.w (tr_ok a F .E _ h4)
      split at h5
      · simp only [Bool.and_eq_true] at h5
        exact Cl.of (.plain (ok_isiT k1 k2 ha (fit_tys F h5.1) (star_no h3) h5.2) (by first | (intro op vs p z; cases z) | (intro k z; cases z) | (intro whole; rfl))) (by first | (intro op vs p z; cases z) | (intro k z; cases z) | (intro whole; rfl)) (by first | (intro op vs p z; cases z) | (intro k z; cases z) | (intro whole; rfl)) m
      · split at h5
        · simp only [tysB, Bool.and_eq_true, decide_eq_true_eq] at h5
          obtain ⟨⟨rfl, h6⟩, _⟩ := h5
          exact Cl.of (.plain (ok_isi1 k1 k2 ha (fit_ty F h6) (star_no h3)) (by first | (intro op vs p z; cases z) | (intro k z; cases z) | (intro whole; rfl))) (by first | (intro op vs p z; cases z) | (intro k z; cases z) | (intro whole; rfl)) (by first | (intro op vs p z; cases z) | (intro k z; cases z) | (intro whole; rfl)) m
        · cases h5
      · cases h5
    · cases h
  | .isc a c, tc, X, C, F, m, e, h => by
    simp only [trE] at h
    split at h
    · rename_i x p y q p2 pos
      simp only [Bool.and_eq_true, decide_eq_true_eq] at h
      obtain ⟨⟨⟨⟨⟨⟨rfl, h2⟩, h3⟩, h4⟩, h5⟩, h6⟩, h7⟩ := h
      obtain ⟨k1, k2, k3⟩ := fit_blt F h2
      obtain ⟨c1, _⟩ := F.core.cls _ _ h4
      exact Cl.of (.plain (ok_isc F.core.own k1 k2 (ClE.w (tr_ok a F .E _ h7)) (fit_gl F h5) c1 (dbg_ok h6) (star_no h3)) (by first | (intro op vs p z; cases z) | (intro k z; cases z) | (intro whole; rfl))) (by first | (intro op vs p z; cases z) | (intro k z; cases z) | (intro whole; rfl)) (by first | (intro op vs p z; cases z) | (intro k z; cases z) | (intro whole; rfl)) m
    · cases h
  | .att o y, tc, X, C, F, m, e, h => by
    simp only [trE] at h
    split at h
    · simp only [Bool.and_eq_true, decide_eq_true_eq] at h
      obtain ⟨⟨h1, h2⟩, h3⟩ := h
      have e2 := F.core.nm _ _ h1
      subst e2
      exact Cl.of (.plain (ok_att F.core.inj (fun c hc => F.core.isAt c y hc) h2 (ClE.w (tr_ok o F .E _ h3))) (by first | (intro op vs p z; cases z) | (intro k z; cases z) | (intro whole; rfl))) (by first | (intro op vs p z; cases z) | (intro k z; cases z) | (intro whole; rfl)) (by first | (intro op vs p z; cases z) | (intro k z; cases z) | (intro whole; rfl)) m
    · cases h
  | .idx o k, tc, X, C, F, m, e, h => by
    simp only [trE] at h
    split at h
    · simp only [Bool.and_eq_true] at h
      obtain ⟨⟨h1, h2⟩, h3⟩ := h
      exact Cl.of (.plain (ok_idx (ClE.w (tr_ok o F .E _ h2)) (ClE.ok (tr_ok k F .E _ h3)) (ix_plain h1)) (by first | (intro op vs p z; cases z) | (intro k z; cases z) | (intro whole; rfl))) (by first | (intro op vs p z; cases z) | (intro k z; cases z) | (intro whole; rfl)) (by first | (intro op vs p z; cases z) | (intro k z; cases z) | (intro whole; rfl)) m
    · cases h
  | .slc o lo hi, tc, X, C, F, m, e, h => by
    simp only [trE] at h
    split at h
    · simp only [Bool.and_eq_true] at h
      obtain ⟨⟨h1, h2⟩, h3⟩ := h
      refine Cl.of (.plain (ok_slc (ClE.w (tr_ok o F .E _ h1)) ?_ ?_) (by first | (intro op vs p z; cases z) | (intro k z; cases z) | (intro whole; rfl))) (by first | (intro op vs p z; cases z) | (intro k z; cases z) | (intro whole; rfl)) (by first | (intro op vs p z; cases z) | (intro k z; cases z) | (intro whole; rfl)) m
      · split at h2
        · split at h2
          · exact okp_none
          · cases h2
        · refine okp_some (ClE.ok (tr_ok lo F .E _ h2)) ?_
          intro z; subst z; simp only [trE] at h2; cases h2
      · split at h3
        · split at h3
          · exact okp_none
          · cases h3
        · refine okp_some (ClE.ok (tr_ok hi F .E _ h3)) ?_
          intro z; subst z; simp only [trE] at h3; cases h3
    · cases h
  | .tup as, tc, X, C, F, m, e, h => by
    simp only [trE] at h
    split at h
    · simp only [Bool.and_eq_true] at h
      exact Cl.of (.plain (ok_tup (tr_oks as F _ h.1 h.2).a) (by first | (intro op vs p z; cases z) | (intro k z; cases z) | (intro whole; rfl))) (by first | (intro op vs p z; cases z) | (intro k z; cases z) | (intro whole; rfl)) (by first | (intro op vs p z; cases z) | (intro k z; cases z) | (intro whole; rfl)) m
    · cases h
  | .lst as, tc, X, C, F, m, e, h => by
    simp only [trE] at h
    split at h
    · simp only [Bool.and_eq_true] at h
      exact Cl.of (.plain (ok_lst (tr_oks as F _ h.1 h.2).a) (by first | (intro op vs p z; cases z) | (intro k z; cases z) | (intro whole; rfl))) (by first | (intro op vs p z; cases z) | (intro k z; cases z) | (intro whole; rfl)) (by first | (intro op vs p z; cases z) | (intro k z; cases z) | (intro whole; rfl)) m
    · cases h
  | .cpr elt own tg it ifs, tc, X, C, F, m, e, h => by
    simp only [trE] at h
    split at h
    · rename_i x t i fs scope pos
      simp only [Bool.and_eq_true] at h
      obtain ⟨⟨⟨⟨⟨⟨⟨⟨h1, h2⟩, h3⟩, h4⟩, h5⟩, ht0⟩, h6⟩, h7⟩, h8⟩ := h
      have hi := tr_ok it F .I _ h5
      have B := blkOk_by h4
      have hs : ∀ x, foldedSetIterable i X.env x = pure x := fun x => by cases i <;> first | rfl | cases h2
      have nd : X.N.Nodup := by rw [F.N]; exact F.nd
      have key := ok_cpr (X := X) (C := C) (P := P) (G := G) (elt := x) (tg := t) (iter := i) (ifs := fs) (scope := scope) (pos := pos) (ownS := ownOf tc own) (ie := elt) (it := it) (ii := ifs) (t := tg) (F.calm h1).1 nd hs
        (fun k hk => by rw [own_map]; have := List.all_eq_true.mp h3 k hk; simpa using this) (ClI.c hi t ht0) (by rw [F.N, F.sc]; exact B)
        (fun s H Ca cl fp => fit_tg (fit_blk F) h6)
        (fun s H Ca cl fp => by
          split at h8
          · split at h8
            · exact ⟨fun pins s σ H Q I ⟨ω, env, st, S, q⟩ => pts_nil.run pins s σ H Q I (q.here S.st)⟩
            · cases h8
          · rename_i f
            have ht := ClT.t (tr_ok ifs (fit_blk F (s := s) (H := H) (Ca := Ca) (cl := cl) (fp := fp)) .T _ h8)
            have hn : ifs ≠ .nil := by intro z; subst z; simp only [trE] at h8; cases h8
            have e2 : ifsE P G C.xh ifs = fun env st => tst (ev P G C.xh ifs env st) := by
              funext env st
              cases ifs <;> first | rfl | exact (hn rfl).elim
            rw [e2]
            exact pts_one ht
          · cases h8)
        (fun s H Ca cl fp => ClE.ok (tr_ok elt (fit_blk F) .E _ h7))
      rw [own_map] at key
      exact Cl.of (.plain key (by first | (intro op vs p z; cases z) | (intro k z; cases z) | (intro whole; rfl))) (by first | (intro op vs p z; cases z) | (intro k z; cases z) | (intro whole; rfl)) (by first | (intro op vs p z; cases z) | (intro k z; cases z) | (intro whole; rfl)) m
    · cases h
  | .rng a b, tc, X, C, F, m, e, h => by
    cases m with
    | E => simp only [trE] at h; cases h
    | T => simp only [trE] at h; cases h
    | I =>
      simp only [trE] at h
      split at h
      · split at h
        · simp only [Bool.and_eq_true, decide_eq_true_eq] at h
          obtain ⟨⟨⟨rfl, h2⟩, h3⟩, h4⟩ := h
          obtain ⟨k1, k2, k3⟩ := fit_blt F h2
          have hb := ClE.ok (tr_ok b F .E _ h4)
          exact ⟨fun tg _ => oki_rng1 k1 k2 hb (star_no h3), fun tg _ => oki_rng1 k1 k2 hb (star_no h3)⟩
        · cases h
      · simp only [Bool.and_eq_true, decide_eq_true_eq] at h
        obtain ⟨⟨⟨⟨⟨rfl, h2⟩, h3⟩, h3'⟩, h4⟩, h5⟩ := h
        obtain ⟨k1, k2, k3⟩ := fit_blt F h2
        have ha := ClE.ok (tr_ok a F .E _ h4)
        have hb := ClE.ok (tr_ok b F .E _ h5)
        exact ⟨fun tg _ => oki_rng2 k1 k2 ha hb (star_no h3) (star_no h3'), fun tg _ => oki_rng2 k1 k2 ha hb (star_no h3) (star_no h3')⟩
      · cases h
  | .enm a, tc, X, C, F, m, e, h => by
    cases m with
    | E => simp only [trE] at h; cases h
    | T => simp only [trE] at h; cases h
    | I =>
      simp only [trE] at h
      split at h
      · simp only [Bool.and_eq_true, decide_eq_true_eq] at h
        obtain ⟨⟨⟨rfl, h2⟩, h3⟩, h4⟩ := h
        obtain ⟨k1, k2, k3⟩ := fit_blt F h2
        have ha := ClE.ok (tr_ok a F .E _ h4)
        refine ⟨fun tg ht => ?_, fun tg ht => ?_⟩
        · cases tg <;> first | exact oki_enm k1 k2 ha (star_no h3) | cases ht
        · cases tg <;> first | exact okis_enm k1 k2 ha (star_no h3) | cases ht
      · cases h
  | .zip a b, tc, X, C, F, m, e, h => by
    cases m with
    | E => simp only [trE] at h; cases h
    | T => simp only [trE] at h; cases h
    | I =>
      simp only [trE] at h
      split at h
      · simp only [Bool.and_eq_true, decide_eq_true_eq] at h
        obtain ⟨⟨⟨⟨⟨rfl, h2⟩, h3⟩, h3'⟩, h4⟩, h5⟩ := h
        obtain ⟨k1, k2, k3⟩ := fit_blt F h2
        have ha := ClE.ok (tr_ok a F .E _ h4)
        have hb := ClE.ok (tr_ok b F .E _ h5)
        refine ⟨fun tg ht => ?_, fun tg ht => ?_⟩
        · cases tg <;> first | exact pi_zp k1 k2 ha hb (star_no h3) (star_no h3') | cases ht
        · cases tg <;> first | exact pi_zp k1 k2 ha hb (star_no h3) (star_no h3') | cases ht
      · cases h
  | .xat k f, tc, X, C, F, m, e, h => by
    simp only [trE] at h
    split at h
    · rename_i x p y q
      simp only [Bool.and_eq_true, decide_eq_true_eq] at h
      obtain ⟨⟨⟨h1, h2⟩, h3⟩, h4⟩ := h
      have e2 := F.core.nm _ _ h3
      subst e2
      exact Cl.of (.plain (F.xat h1 k f _ _ (fit_pv F h2) rfl h4) (by first | (intro op vs p z; cases z) | (intro k z; cases z) | (intro whole; rfl))) (by first | (intro op vs p z; cases z) | (intro k z; cases z) | (intro whole; rfl)) (by first | (intro op vs p z; cases z) | (intro k z; cases z) | (intro whole; rfl)) m
    · cases h
  | .xis k t, tc, X, C, F, m, e, h => by
    simp only [trE] at h
    split at h
    · rename_i x p y q
      simp only [Bool.and_eq_true, decide_eq_true_eq] at h
      obtain ⟨⟨⟨⟨⟨⟨h1, rfl⟩, h3⟩, h4⟩, h5⟩, h6⟩, h7⟩ := h
      obtain ⟨k1, k2, k3⟩ := fit_blt F h3
      exact Cl.of (.plain (F.xis h1 k t _ _ _ _ _ (fit_pv F h4) rfl k1 k2 (fit_gl F h5) (dbg_ok h6) h7) (by first | (intro op vs p z; cases z) | (intro k z; cases z) | (intro whole; rfl))) (by first | (intro op vs p z; cases z) | (intro k z; cases z) | (intro whole; rfl)) (by first | (intro op vs p z; cases z) | (intro k z; cases z) | (intro whole; rfl)) m
    · cases h
  | .xkf c ns as f, tc, X, C, F, m, e, h => by
    have nmAll : ∀ (ns : List Nat) (ys : List Str), ns.map (fun i => tc.tb.nms[i]?) = ys.map some → ys = ns.map C.T.nm := fun ns => by
      induction ns with
      | nil => intro ys z; cases ys with
        | nil => rfl
        | cons _ _ => cases z
      | cons i r ih =>
        intro ys z
        cases ys with
        | nil => cases z
        | cons y ys =>
          rw [List.map_cons, List.map_cons] at z
          injection z with z1 z2
          rw [List.map_cons, F.core.nm _ _ z1, ← ih ys z2]
    simp only [trE] at h
    split at h
    · simp only [Bool.and_eq_true, decide_eq_true_eq] at h
      obtain ⟨⟨⟨⟨⟨⟨⟨⟨⟨h1, h2⟩, h3⟩, h4⟩, h5⟩, h6⟩, h7⟩, h8⟩, h9⟩, h10⟩ := h
      obtain ⟨k1, k2⟩ := F.core.xcs _ _ h2
      obtain ⟨j1, j2, j3⟩ := F.core.xks _ _ h7
      have e2 := F.core.nm _ _ h5
      subst e2
      exact Cl.of (.plain (ok_xkf (kws := [⟨some _, _, _⟩]) F.core.inj (j3 X rfl) j1 (j2 _ h6) (F.calm h1).2.r (fit_gl F h3) k1 (dbg_ok h4) ((tr_oks as F _ (by unfold noStar; simpa using h9) h10).k _ rfl) (nmAll ns [_] h8) rfl rfl (attr_base rfl _)) (by first | (intro op vs p z; cases z) | (intro k z; cases z) | (intro whole; rfl))) (by first | (intro op vs p z; cases z) | (intro k z; cases z) | (intro whole; rfl)) (by first | (intro op vs p z; cases z) | (intro k z; cases z) | (intro whole; rfl)) m
    · simp only [Bool.and_eq_true, decide_eq_true_eq] at h
      obtain ⟨⟨⟨⟨⟨⟨⟨⟨⟨⟨h1, h2⟩, h3⟩, h4⟩, h5⟩, h6⟩, h7⟩, h8⟩, h9⟩, h9'⟩, h10⟩ := h
      obtain ⟨k1, k2⟩ := F.core.xcs _ _ h2
      obtain ⟨j1, j2, j3⟩ := F.core.xks _ _ h7
      have e2 := F.core.nm _ _ h5
      subst e2
      exact Cl.of (.plain (ok_xkf (kws := [⟨some _, _, _⟩, ⟨some _, _, _⟩]) F.core.inj (j3 X rfl) j1 (j2 _ h6) (F.calm h1).2.r (fit_gl F h3) k1 (dbg_ok h4) ((tr_oks as F _ (by unfold noStar; simp only [List.all_cons, List.all_nil, Bool.and_true, Bool.and_eq_true]; exact ⟨h9, h9'⟩) h10).k _ rfl) (nmAll ns [_, _] h8) rfl rfl (attr_base rfl _)) (by first | (intro op vs p z; cases z) | (intro k z; cases z) | (intro whole; rfl))) (by first | (intro op vs p z; cases z) | (intro k z; cases z) | (intro whole; rfl)) (by first | (intro op vs p z; cases z) | (intro k z; cases z) | (intro whole; rfl)) m
    · cases h
  | .rpr a, tc, X, C, F, m, e, h => by
    simp only [trE] at h
    split at h
    · simp only [Bool.and_eq_true, decide_eq_true_eq] at h
      obtain ⟨⟨⟨rfl, h2⟩, h3⟩, h4⟩ := h
      obtain ⟨k1, k2, k3⟩ := fit_blt F h2
      exact Cl.of (.plain (ok_rpr F.grd F.units k1 k2 (star_no h3) (ClE.w (tr_ok a F .E _ h4))) (by first | (intro op vs p z; cases z) | (intro k z; cases z) | (intro whole; rfl))) (by first | (intro op vs p z; cases z) | (intro k z; cases z) | (intro whole; rfl)) (by first | (intro op vs p z; cases z) | (intro k z; cases z) | (intro whole; rfl)) m
    · cases h
  | .lrn a b, tc, X, C, F, m, e, h => by
    simp only [trE] at h
    split at h
    · simp only [Bool.and_eq_true, decide_eq_true_eq] at h
      obtain ⟨⟨⟨⟨⟨⟨⟨⟨h1, rfl⟩, h2⟩, rfl⟩, h3⟩, h4⟩, h5⟩, h6⟩, h7⟩ := h
      obtain ⟨k1, k2, k3⟩ := fit_blt F h2
      obtain ⟨j1, j2, j3⟩ := fit_blt F h3
      exact Cl.of (.plain (ok_lrn (F.calm h1).1 k1 k2 j1 j2 (star_no h4) (star_no h5) (ClE.ok (tr_ok a F .E _ h6)) (ClE.ok (tr_ok b F .E _ h7))) (by first | (intro op vs p z; cases z) | (intro k z; cases z) | (intro whole; rfl))) (by first | (intro op vs p z; cases z) | (intro k z; cases z) | (intro whole; rfl)) (by first | (intro op vs p z; cases z) | (intro k z; cases z) | (intro whole; rfl)) m
    · cases h
  | .oeq ng a b, tc, X, C, F, m, e, h => by
    simp only [trE] at h
    split at h
    · simp only [Bool.and_eq_true, decide_eq_true_eq, Bool.not_eq_true'] at h
      obtain ⟨⟨⟨⟨h0, rfl⟩, h1⟩, h2⟩, h3⟩ := h
      have ha := ClE.ok (tr_ok a F .E _ h1)
      have hb := ClE.ok (tr_ok b F .E _ h2)
      have hr := (F.calm h0).2
      have FE : ∀ c f, P.eqf c = some f → EqF X C.T n c f (spF (bs X C) (G.call f)) := fun c f hf => by
        obtain ⟨e1, e2, e3⟩ := F.core.eqf c f hf
        exact ⟨e1, e2, e3 X rfl⟩
      cases m with
      | T => exact ⟨okT_oeq FE hr ha hb h3, by intro op vs p z; cases z⟩
      | E => exact Cl.ofE (.plain (ok_oeq FE hr ha hb h3) (by first | (intro op vs p z; cases z) | (intro k z; cases z) | (intro whole; rfl))) .E (by intro z; cases z)
      | I => exact Cl.ofE (.plain (ok_oeq FE hr ha hb h3) (by first | (intro op vs p z; cases z) | (intro k z; cases z) | (intro whole; rfl))) .I (by intro z; cases z)
    · cases h
theorem tr_oks : ∀ (is : List Ex) {tc : TC} {X : Cx} {C : Cf} (F : Fit tc X C P G sup xf n) (es : List Expr), noStar es = true → trA tc is es = true → ClA X C P G is es
  | [], tc, X, C, F, es, hs, h => by
    simp only [trA] at h
    cases es with
    | nil => exact ⟨oka_nil, okb_nil, rfl, (fun i e z => by cases z), fun kws z => by
        cases kws with
        | nil => exact okk_nil
        | cons q r => cases z⟩
    | cons e es => cases h
  | a :: as, tc, X, C, F, es, hs, h => by
    simp only [trA] at h
    split at h
    · simp only [Bool.and_eq_true] at h
      obtain ⟨h1, h2⟩ := h
      obtain ⟨s1, s2⟩ := noStar_cons hs
      have ha : ClE X C P G a _ := tr_ok a F .E _ h1
      have hr := tr_oks as F _ s2 h2
      exact ⟨oka_cons ha.ok hr.a (star_cons s1), okb_cons ha.w hr.b (star_cons s1), by simp [hr.n], (fun i e z1 z2 => by cases z1; cases z2; exact ha), fun kws z => by
        cases kws with
        | nil => cases z
        | cons q r =>
          rw [List.map_cons] at z
          injection z with z1 z2
          subst z1
          obtain ⟨n1, n2, n3⟩ := q
          exact okk_cons ha.ok (hr.k r z2)⟩
    · cases h
end
end
end Iv

set_option Elab.async false
set_option linter.all false
set_option maxRecDepth 100000
set_option maxHeartbeats 4000000
/-! IvP: the check of statements. -/
namespace Iv
open PySem PySem.Spec L2
open PyProof.Rows hiding St
def isComp : Expr → Bool
  | .ListComp .. => true
  | .SetComp .. => true
  | .DictComp .. => true
  | _ => false
def isNm : Expr → Bool
  | .Name .. => true
  | _ => false
def isTp : Expr → Bool
  | .Tuple .. => true
  | .List .. => true
  | _ => false
/-- the targets are stored by an unpacked pair's swap: the names, or not -/
def swp (sc : Scope) (ts vs : List Expr) : Option (Option (List Str)) :=
  if !(ts.length == 2 || ts.length == 3) || vs.length != ts.length then some none else
  if vs.any isStar then some none else
  match ts with
  | [.Name x px, .Name y py] => if !locB sc x || !locB sc y then some none else if locB sc x && locB sc y && py.line == px.line && !(x == y) then (if vs.all (foldedForSure 8) then some none else if vs.all (constantsAlone 8) then none else some (some [x, y])) else none
  | [.Name x px, .Name y py, .Name z pz] => if !locB sc x || !locB sc y || !locB sc z then some none else if locB sc x && locB sc y && locB sc z && py.line == px.line && pz.line == px.line && !(x == y) && !(x == z) && !(y == z) then (if vs.all (foldedForSure 8) then some none else if vs.all (constantsAlone 8) then none else some (some [x, y, z])) else none
  | _ => none
/-- a new list -/
def trF : TC → Ex → Expr → Bool
  | tc, .lst as, e => trE tc .E (.lst as) e
  | tc, .bf b as, e => (match b with | .list => trE tc .E (.bf .list as) e | _ => false)
  | tc, .cpr elt own tg it ifs, e => trE tc .E (.cpr elt own tg it ifs) e
  | _, _, _ => false
def trM : TC → List (Bool × Ex) → List Expr → Bool
  | tc, [], es => es.isEmpty
  | tc, (b, a) :: as, es => (match es with | x :: r => (if b then trF tc a x else trE tc .E a x) && !isStar x && trM tc as r | [] => false)
def suTC (tc : TC) : TC := { tc with calm := false, suit := true }
def exTC (tc : TC) : TC := { tc with calm := false, suit := false }
/-- a new list, stored to a name -/
def trNew (tc : TC) (i : Nat) (e : Ex) (s : Stmt) : Bool := match s with
  | .Assign [.Name x px] v pos => decide (tc.N[i]? = some x) && stoB tc x && trF tc e v && (if isComp v then locB tc.sc x && (px.line == v.pos.line) && (match v with | .ListComp _ _ s2 _ => !(s2.names.any fun (n, k) => n == x && (k == .local || k == .cell)) | _ => false) else true)
  | _ => false
mutual
def trS : TC → Sm → Stmt → Bool
  | tc, .asg t e, s => (match s with
      | .Assign [tg] v pos => if isComp v && isNm tg then (match t with | .nm i => trNew tc i e s | _ => false) else tgB tc t tg && trE tc .E e v && !(isTp tg && isTp v)
      | _ => false)
  | tc, .mas is es, s => (match s with
      | .Assign [.Tuple ts _ _] (.Tuple vs _ _) pos => decide (is.length = vs.length) && fits vs.length && trM tc es vs && (match swp tc.sc ts vs with
        | some none => tgB tc (.tp is) (.Tuple ts 0 ⟨0, 0, 0, 0⟩)
        | some (some _) => tc.calm && (is.length == 2 || is.length == 3) && (decide is.Nodup) && (is.zip ts).all fun p => match p.2 with | .Name x _ => decide (tc.N[p.1]? = some x) | _ => false
        | none => false)
      | _ => false)
  | tc, .own i e, s => trNew tc i e s
  | tc, .new i e, s => trNew tc i e s
  | tc, .frz i, s => false
  | tc, .aug i o e, s => (match s with
      | .AugAssign (.Name x _) op v _ => decide (tc.N[i]? = some x) && stoB tc x && trE tc .E e v && (match o, op with | .add, .Add => true | .sub, .Sub => true | _, _ => false)
      | _ => false)
  | tc, .app i e, s => (match s with
      | .Expr (.Call (.Attribute (.Name x _) m p) [v] [] q) _ => decide (m = ("append" : Str)) && varB tc i x && trE tc .E e v && !isStar v && (p.endLine == q.line)
      | _ => false)
  | tc, .ext i e, s => false
  | tc, .ins i a e, s => (match s with
      | .Expr (.Call (.Attribute (.Name x _) m p) [u, v] [] q) _ => decide (m = ("insert" : Str)) && varB tc i x && trE tc .E a u && trE tc .E e v && !isStar u && !isStar v && (p.endLine == q.line)
      | _ => false)
  | tc, .sti i k e, s => (match s with
      | .Assign [.Subscript (.Name x _) u _] v pos => varB tc i x && trE tc .E k u && trE tc .E e v && notSlice u
      | _ => false)
  | tc, .sta i f e, s => (match s with
      | .Assign [.Attribute (.Name x _) m _] v pos => varB tc i x && decide (tc.tb.nms[f]? = some m) && trE tc .E e v
      | _ => false)
  | tc, .exp e, s => (match s with
      | .Expr v _ => trE tc .E e v && !isComp v
      | _ => false)
  | tc, .ret e, s => (match s with
      | .Return (some v) _ => trE tc .E e v
      | _ => false)
  | tc, .retN, s => (match s with | .Return none _ => true | _ => false)
  | tc, .pass, s => (match s with | .Pass _ => true | _ => false)
  | tc, .iff t a b, s => (match s with | .If x y z _ => trE tc .T t x && trSs tc a y && trSs tc b z | _ => false)
  | tc, .whl t b, s => (match s with | .While x y [] _ => tc.calm && trE tc .T t x && trSs tc b y | _ => false)
  | tc, .for_ tg it b, s => (match s with | .For t x y [] _ => tc.calm && notSet x && tgB tc tg t && tgOk it t && trE tc .I it x && trSs tc b y | _ => false)
  | tc, .rai c as, s => (match s with
      | .Raise (some (.Call (.Name x _) [] [] _)) none _ => tc.calm && decide (tc.tb.xps.lookup x = some c) && glB tc.sc x && dbgB x && as.isEmpty
      | .Raise (some (.Call (.Name x _) (e :: es) [] _)) none _ => tc.calm && decide (tc.tb.xcs.lookup x = some c) && glB tc.sc x && dbgB x && noStar (e :: es) && trA tc as (e :: es)
      | _ => false)
  | tc, .try_ b c n u, s => (match s with
      | .Try bs [.ExceptHandler (some (.Name x _)) y (s0 :: us) _] [] [] _ => tc.calm && (decide (tc.tb.xcs.lookup x = some c) || decide (tc.tb.xps.lookup x = some c)) && glB tc.sc x && dbgB x && trSs { tc with suit := false } b bs && (match n, y with
        | some i, some z => decide (tc.N[i]? = some z) && locB tc.sc z && trSs (suTC tc) u (s0 :: us)
        | none, none => trSs (exTC tc) u (s0 :: us)
        | _, _ => false)
      | _ => false)
def trSs : TC → List Sm → List Stmt → Bool
  | tc, [], ss => ss.isEmpty
  | tc, s :: r, ss => (match s with
      | .frz _ => trSs tc r ss
      | _ => (match ss with | x :: q => trS tc s x && trSs tc r q | [] => false))
end
end Iv

set_option Elab.async false
set_option linter.all false
set_option maxRecDepth 100000
set_option maxHeartbeats 4000000
/-! IvQ: the check of statements is sound. -/
namespace Iv
open PySem PySem.Spec L2
open PyProof.Rows hiding St
theorem isStar_eq (e : Expr) : (match e with | .Starred .. => true | _ => false) = isStar e := by cases e <;> rfl
theorem locB_no {env : Env} {x : Str} (h : locB env.scope x = false) : (env.kindOf x == some .local) = false := by
  unfold locB at h
  unfold Env.kindOf
  cases e : env.scope.names.lookup x with
  | none => rfl
  | some k =>
    rw [e] at h
    cases k <;> first | rfl | cases h
theorem swp_none {env : Env} {ts vs : List Expr} {kt k2 : Nat} {pt pv : Pos} (hk : env.scope.kind = .function) (h : swp env.scope ts vs = some none) : swappedStores [.Tuple ts kt pt] (.Tuple vs k2 pv) env = pure none := by
  have hb : env.blockKind = .function := by unfold Env.blockKind; rw [hk]; rfl
  unfold swp at h
  unfold swappedStores
  simp only [pure_bind, hb]
  split at h
  · rename_i h1
    rw [h1, Bool.true_or, if_pos rfl]
  · rename_i h1
    rw [show (!(ts.length == 2 || ts.length == 3) || vs.length != ts.length) = false from by simpa using h1, Bool.false_or, if_neg (by decide)]
    have e2 : ∀ f : Expr → Bool, (∀ e, f e = isStar e) → vs.any f = vs.any isStar := fun f hf => by
      congr 1
      exact funext hf
    rw [e2 _ (fun e => by cases e <;> rfl)]
    split at h
    · rename_i h2
      rw [if_pos h2]
    · rename_i h2
      rw [if_neg h2]
      have loc : ∀ {x : Str}, locB env.scope x = true → env.kindOf x = some .local := fun {x} h => by
        unfold locB at h
        split at h
        · assumption
        · cases h
      split at h
      · rename_i x px y py
        split at h
        · rename_i h0
          have h0' : locB env.scope x = false ∨ locB env.scope y = false := by simpa using h0
          simp only [List.head?_cons, Option.map_some, Option.getD_some, Expr.pos, List.filterMap_cons, List.filterMap_nil]
          have h0 : (env.kindOf x == some NameKind.local && px.line == px.line) = false ∨ (env.kindOf y == some NameKind.local && py.line == px.line) = false := by
            rcases h0' with z | z
            · exact .inl (by rw [locB_no z]; rfl)
            · exact .inr (by rw [locB_no z]; rfl)
          rcases Bool.eq_false_or_eq_true (env.kindOf x == some NameKind.local && px.line == px.line) with k1 | k1 <;> rcases Bool.eq_false_or_eq_true (env.kindOf y == some NameKind.local && py.line == px.line) with k2 | k2
          · rw [k1, k2] at h0
            rcases h0 with h0 | h0 <;> cases h0
          all_goals
            simp only [k1, k2, Bool.false_eq_true, if_false, if_true]
            rfl
        split at h
        · rename_i h3
          simp only [Bool.and_eq_true] at h3
          obtain ⟨⟨⟨l1, l2⟩, l3⟩, l4⟩ := h3
          split at h
          · rename_i h4
            have k1 := loc l1
            have k2 := loc l2
            have l3' : py.line = px.line := by simpa using l3
            have l4' : ¬ x = y := by simpa using l4
            simp only [List.head?_cons, Option.map_some, Option.getD_some, Expr.pos, List.filterMap_cons, k1, k2, l3', List.filterMap_nil]
            simp [h4, List.eraseDups_cons, l4']
          · split at h <;> cases h
        · cases h
      · rename_i x px y py z pz
        split at h
        · rename_i h0
          have h0' : (locB env.scope x = false ∨ locB env.scope y = false) ∨ locB env.scope z = false := by simpa using h0
          simp only [List.head?_cons, Option.map_some, Option.getD_some, Expr.pos, List.filterMap_cons, List.filterMap_nil]
          have h0 : ((env.kindOf x == some NameKind.local && px.line == px.line) = false ∨ (env.kindOf y == some NameKind.local && py.line == px.line) = false) ∨ (env.kindOf z == some NameKind.local && pz.line == px.line) = false := by
            rcases h0' with (z | z) | z
            · exact .inl (.inl (by rw [locB_no z]; rfl))
            · exact .inl (.inr (by rw [locB_no z]; rfl))
            · exact .inr (by rw [locB_no z]; rfl)
          rcases Bool.eq_false_or_eq_true (env.kindOf x == some NameKind.local && px.line == px.line) with k1 | k1 <;> rcases Bool.eq_false_or_eq_true (env.kindOf y == some NameKind.local && py.line == px.line) with k2 | k2 <;>
            rcases Bool.eq_false_or_eq_true (env.kindOf z == some NameKind.local && pz.line == px.line) with k3 | k3
          · rw [k1, k2, k3] at h0
            rcases h0 with (h0 | h0) | h0 <;> cases h0
          all_goals
            simp only [k1, k2, k3, Bool.false_eq_true, if_false, if_true]
            rfl
        split at h
        · rename_i h3
          simp only [Bool.and_eq_true] at h3
          obtain ⟨⟨⟨⟨⟨⟨⟨l1, l2⟩, l2'⟩, l3⟩, l3'⟩, l4⟩, l5⟩, l6⟩ := h3
          split at h
          · rename_i h4
            have k1 := loc l1
            have k2 := loc l2
            have k3 := loc l2'
            have m3 : py.line = px.line := by simpa using l3
            have m3' : pz.line = px.line := by simpa using l3'
            simp only [List.head?_cons, Option.map_some, Option.getD_some, Expr.pos, List.filterMap_cons, k1, k2, k3, m3, m3', List.filterMap_nil]
            simp [h4]
          · split at h <;> cases h
        · cases h
      · cases h
theorem locB_ok {sc : Scope} {x : Str} (h : locB sc x = true) : sc.names.lookup x = some .local := by
  unfold locB at h
  split at h
  · assumption
  · cases h
/-- two or three names that are stored from the right -/
theorem swp_some {env : Env} {ts vs : List Expr} {kt k2 : Nat} {pt pv : Pos} {ns : List Str} (hk : env.scope.kind = .function) (h : swp env.scope ts vs = some (some ns)) :
    swappedStores [.Tuple ts kt pt] (.Tuple vs k2 pv) env = pure (some ns) ∧ vs.length = ts.length ∧ ((∃ x y px py, ts = [.Name x px, .Name y py] ∧ ns = [x, y] ∧ x ≠ y ∧ env.scope.names.lookup x = some .local ∧ env.scope.names.lookup y = some .local) ∨
      (∃ x y z px py pz, ts = [.Name x px, .Name y py, .Name z pz] ∧ ns = [x, y, z] ∧ x ≠ y ∧ x ≠ z ∧ y ≠ z ∧ env.scope.names.lookup x = some .local ∧ env.scope.names.lookup y = some .local ∧ env.scope.names.lookup z = some .local)) := by
  have hb : env.blockKind = .function := by unfold Env.blockKind; rw [hk]; rfl
  unfold swp at h
  unfold swappedStores
  simp only [pure_bind, hb]
  split at h
  · cases h
  · rename_i h1
    have h1' : (!(ts.length == 2 || ts.length == 3) || vs.length != ts.length) = false := by simpa using h1
    have hl : vs.length = ts.length := by
      rw [Bool.or_eq_false_iff] at h1'
      simpa using h1'.2
    rw [h1', Bool.false_or, if_neg (by decide)]
    have e2 : ∀ f : Expr → Bool, (∀ e, f e = isStar e) → vs.any f = vs.any isStar := fun f hf => by
      congr 1
      exact funext hf
    rw [e2 _ (fun e => by cases e <;> rfl)]
    split at h
    · cases h
    · rename_i h2
      rw [if_neg h2]
      split at h
      · rename_i x px y py
        split at h
        · cases h
        split at h
        · rename_i h3
          simp only [Bool.and_eq_true] at h3
          obtain ⟨⟨⟨l1, l2⟩, l3⟩, l4⟩ := h3
          split at h
          · cases h
          · rename_i h4
            split at h
            · cases h
            · rename_i h5
              cases h
              have k1 : env.kindOf x = some .local := locB_ok l1
              have k2 : env.kindOf y = some .local := locB_ok l2
              have l3' : py.line = px.line := by simpa using l3
              have l4' : ¬ x = y := by simpa using l4
              have l4'' : ¬ y = x := fun e => l4' e.symm
              refine ⟨?_, hl, .inl ⟨x, y, px, py, rfl, rfl, l4', k1, k2⟩⟩
              simp only [List.head?_cons, Option.map_some, Option.getD_some, Expr.pos, List.filterMap_cons, k1, k2, l3', List.filterMap_nil]
              have h4' : vs.all (foldedForSure 8) = false := by simpa using h4
              have h5' : vs.all (constantsAlone 8) = false := by simpa using h5
              simp [h4', h5', List.eraseDups_cons, l4', l4'']
        · cases h
      · rename_i x px y py z pz
        split at h
        · cases h
        split at h
        · rename_i h3
          simp only [Bool.and_eq_true] at h3
          obtain ⟨⟨⟨⟨⟨⟨⟨l1, l2⟩, l2'⟩, l3⟩, l3'⟩, l4⟩, l5⟩, l6⟩ := h3
          split at h
          · cases h
          · rename_i h4
            split at h
            · cases h
            · rename_i h5
              cases h
              have k1 : env.kindOf x = some .local := locB_ok l1
              have k2 : env.kindOf y = some .local := locB_ok l2
              have k3 : env.kindOf z = some .local := locB_ok l2'
              have m3 : py.line = px.line := by simpa using l3
              have m3' : pz.line = px.line := by simpa using l3'
              have n1 : ¬ x = y := by simpa using l4
              have n2 : ¬ x = z := by simpa using l5
              have n3 : ¬ y = z := by simpa using l6
              have n1' : ¬ y = x := fun e => n1 e.symm
              have n2' : ¬ z = x := fun e => n2 e.symm
              have n3' : ¬ z = y := fun e => n3 e.symm
              refine ⟨?_, hl, .inr ⟨x, y, z, px, py, pz, rfl, rfl, n1, n2, n3, k1, k2, k3⟩⟩
              simp only [List.head?_cons, Option.map_some, Option.getD_some, Expr.pos, List.filterMap_cons, k1, k2, k3, m3, m3', List.filterMap_nil]
              have h4' : vs.all (foldedForSure 8) = false := by simpa using h4
              have h5' : vs.all (constantsAlone 8) = false := by simpa using h5
              simp [h4', h5', List.eraseDups_cons, n1, n2, n3, n1', n2', n3']
        · cases h
      · cases h

section
variable {tc : TC} {X : Cx} {C : Cf} {P : Pt} {G : Fns} {sup : Nat → Nat → Option Bool} {xf : Nat → List Nat} {n : Nat}
structure FitS (tc : TC) (X : Cx) (C : Cf) (P : Pt) (G : Fns) (sup : Nat → Nat → Option Bool) (xf : Nat → List Nat) (n : Nat) : Prop where
  fit : Fit tc X C P G sup xf n
  pass : tc.calm = true → PassesOwn (model X.prog X.w) X.A X.env X.xe
  stk : tc.calm = true → X.stack = X.env :: X.outer ∧ X.env.frame = some X.env.locals ∧ C.xh = none
  kind : X.env.scope.kind = .function
theorem FitS.nd (F : FitS tc X C P G sup xf n) : X.N.Nodup := by rw [F.fit.N]; exact F.fit.nd
theorem sole_ok {tg v : Expr} {l : Nat} {env : Env} (h : (isComp v && isNm tg) = false) : swapsWithSole [tg] v l env = pure false := by
  show swapsWith v (some tg) l env = pure false
  unfold swapsWith
  cases v <;> first | rfl | (cases tg <;> first | rfl | cases h)
theorem pair_ok {tg v : Expr} {env : Env} (h : (isTp tg && isTp v) = false) : swappedStores [tg] v env = pure none := by
  unfold swappedStores
  cases tg <;> first | rfl | (cases v <;> first | rfl | cases h)
theorem ae_ok {tg : Expr} {env : Env} (h : isStar tg = false) : (assignEach [tg] env).map (·.2) = [assign tg env] := by
  cases tg <;> first | rfl | cases h
theorem tg_star {t : Tg} {e : Expr} (h : tgB tc t e = true) : isStar e = false := by
  cases t <;> cases e <;> first | rfl | cases h
theorem trF_e {i : Ex} {e : Expr} (h : trF tc i e = true) : trE tc .E i e = true := by
  cases i <;> simp only [trF] at h <;> first | exact h | cases h | (split at h <;> first | exact h | cases h)
theorem cpr_fin {P : Pt} {G : Fns} {x : Xh} {i : Ex} {e : Expr} (h : trF tc i e = true) : ∀ env st d s, ev P G x i env st = .ok d s → ∃ xs, d = .lst xs := by
  cases i <;> simp only [trF] at h <;> first | cases h | skip
  · rename_i b as
    split at h
    · intro env st d s hh
      unfold ev at hh
      cases e1 : evb P G x as env st with
      | ok ds s1 =>
        rw [e1] at hh
        dsimp only [R.bind] at hh
        cases e2 : bfD .list (ds.map (der s1)) with
        | none => rw [e2] at hh; cases hh
        | some y =>
          rw [e2] at hh
          cases hh
          have e3 : listD (ds.map (der s)) = some d := e2
          unfold listD at e3
          split at e3 <;> first | (cases e3; exact ⟨_, rfl⟩) | cases e3 | skip
          all_goals first | (obtain ⟨y, _, rfl⟩ := Option.map_eq_some_iff.mp e3; exact ⟨_, rfl⟩) | (split at e3 <;> first | (cases e3; exact ⟨_, rfl⟩) | cases e3)
      | exc c fs s1 => rw [e1] at hh; cases hh
      | stuck => rw [e1] at hh; cases hh
    · cases h
  · exact fin_lst
  · exact fin_cpr
/-- .. as a new list -/
theorem trF_ok (F : Fit tc X C P G sup xf n) {i : Ex} {e : Expr} (h : trF tc i e = true) (hc : isComp e = false) : OkF X C P G i e := by
  cases i <;> simp only [trF] at h <;> first | cases h | skip
  · rename_i b as
    split at h
    · simp only [trE] at h
      split at h
      · split at h
        · rename_i y b1 c hb
          simp only [Bool.and_eq_true, decide_eq_true_eq] at h
          obtain ⟨⟨⟨⟨rfl, h2⟩, h3⟩, h4⟩, h5⟩ := h
          obtain ⟨k1, k2, k3⟩ := fit_blt F h2
          simp only [bfN, Option.some.injEq, Prod.mk.injEq] at hb
          obtain ⟨rfl, rfl, rfl⟩ := hb
          exact okf_list k1 k2 PyProof.Rows.boot_list (by decide) k3 h4 (tr_oks as F _ h4 h5).b
        · cases h
      · cases h
    · cases h
  · rename_i as
    simp only [trE] at h
    split at h
    · simp only [Bool.and_eq_true] at h
      exact okf_lst (tr_oks as F _ h.1 h.2).a
    · cases h
  · simp only [trE] at h
    split at h
    · cases hc
    · cases h
end
end Iv

set_option Elab.async false
set_option linter.all false
set_option maxRecDepth 100000
set_option maxHeartbeats 4000000
/-! IvR: statements: the check gives what is wanted. -/
namespace Iv
open PySem PySem.Spec L2
open PyProof.Rows hiding St
section
variable {tc : TC} {X : Cx} {C : Cf} {P : Pt} {G : Fns} {sup : Nat → Nat → Option Bool} {xf : Nat → List Nat} {n : Nat}
theorem sole_att {o v : Expr} {m : Str} {p : Pos} {l : Nat} {env : Env} : swapsWith v (some (.Attribute o m p)) l env = pure false := by
  unfold swapsWith
  cases v <;> rfl
theorem cpr_use {Goal : Prop} (F : Fit tc X C P G sup xf n) {elt it ifs : Ex} {own : List Nat} {tg : Tg} {m : Md} {e : Expr} (h : trE tc m (.cpr elt own tg it ifs) e = true)
    (k : ∀ x t i fs scope pos, e = .ListComp x [⟨t, i, fs, 0⟩] scope pos → X.calm = true → X.N.Nodup → (∀ x, foldedSetIterable i X.env x = pure x) → (∀ j ∈ tg.sl, j ∈ (ownOf tc own).map (·.2)) → OkI X C P G t it i → BlkOk X.N X.env.scope scope (ownOf tc own) →
      (∀ (s : Shared) (H : Hp) (Ca : Addr) (cl : List (Str × Addr)) (fp : List Addr), PG (X.blk s H scope (compEnvC scope cl Ca X.env) fp) t (gT X.K tg)) →
      (∀ (s : Shared) (H : Hp) (Ca : Addr) (cl : List (Str × Addr)) (fp : List Addr), PTs (X.blk s H scope (compEnvC scope cl Ca X.env) fp) fs (tT (bs X C) C.blk (ifsE P G C.xh ifs))) →
      (∀ (s : Shared) (H : Hp) (Ca : Addr) (cl : List (Str × Addr)) (fp : List Addr), OkE (X.blk s H scope (compEnvC scope cl Ca X.env) fp) C.blk P G elt x) → Goal) : Goal := by
  simp only [trE] at h
  split at h
  · rename_i x t i fs scope pos
    simp only [Bool.and_eq_true] at h
    obtain ⟨⟨⟨⟨⟨⟨⟨⟨h1, h2⟩, h3⟩, h4⟩, h5⟩, ht0⟩, h6⟩, h7⟩, h8⟩ := h
    have hi := tr_ok it F .I _ h5
    have B := blkOk_by h4
    refine k x t i fs scope pos rfl (F.calm h1).1 (by rw [F.N]; exact F.nd) (fun x => by cases i <;> first | rfl | cases h2) (fun k hk => by rw [own_map]; have := List.all_eq_true.mp h3 k hk; simpa using this) (ClI.c hi t ht0) (by rw [F.N, F.sc]; exact B)
      (fun s H Ca cl fp => fit_tg (fit_blk F) h6) (fun s H Ca cl fp => ?_) (fun s H Ca cl fp => ClE.ok (tr_ok elt (fit_blk F) .E _ h7))
    split at h8
    · split at h8
      · exact ⟨fun pins s σ H Q I ⟨ω, env, st, S, q⟩ => pts_nil.run pins s σ H Q I (q.here S.st)⟩
      · cases h8
    · rename_i f
      have ht := ClT.t (tr_ok ifs (fit_blk F (s := s) (H := H) (Ca := Ca) (cl := cl) (fp := fp)) .T _ h8)
      have hn : ifs ≠ .nil := by intro z; subst z; simp only [trE] at h8; cases h8
      have e2 : ifsE P G C.xh ifs = fun env st => tst (ev P G C.xh ifs env st) := by
        funext env st
        cases ifs <;> first | rfl | exact (hn rfl).elim
      rw [e2]
      exact pts_one ht
    · cases h8
  · cases h
theorem trNew_ok (F : FitS tc X C P G sup xf n) {i : Nat} {e : Ex} {s : Stmt} (h : trNew tc i e s = true) : PS X s (tAsg (tF (bs X C) C (ev P G C.xh e)) (gName i)) ∧ ∃ v, trF tc e v = true := by
  unfold trNew at h
  split at h
  · rename_i x px v pos
    simp only [Bool.and_eq_true, decide_eq_true_eq] at h
    obtain ⟨⟨⟨h1, h2⟩, h3⟩, h4⟩ := h
    refine ⟨?_, v, h3⟩
    have hi : X.N[i]? = some x := by rw [F.fit.N]; exact h1
    obtain ⟨k1, k2⟩ := fit_sto F.fit h2
    by_cases hc : isComp v = true
    · rw [if_pos hc] at h4
      simp only [Bool.and_eq_true] at h4
      obtain ⟨⟨h5, h6⟩, h7⟩ := h4
      have hl := locB_ok h5
      cases e <;> simp only [trF] at h3 <;> first | cases h3 | skip
      · exfalso
        split at h3
        · simp only [trE] at h3
          split at h3
          · cases hc
          · cases h3
        · cases h3
      · exfalso
        simp only [trE] at h3
        split at h3
        · cases hc
        · cases h3
      · rename_i elt own tg it ifs
        refine cpr_use F.fit h3 fun x2 t i2 fs scope p2 ev c1 c2 c3 c4 c5 c6 c7 c8 c9 => ?_
        subst ev
        have key := okf_setcpr (X := X) (C := C) (P := P) (G := G) (elt := x2) (tg := t) (iter := i2) (ifs := fs) (scope := scope) (pos := p2) (ownS := ownOf tc own) (ie := elt) (it := it) (ii := ifs) (t := tg) (i := i) (y := x) (py := px) (spos := pos) c1 c2 c3 c4 hi (by rw [F.fit.sc]; exact hl)
          (sw_true F.kind (by rw [F.fit.sc]; exact hl) h6 (by simpa using h7)) c5 c6 c7 c8 c9
        rw [own_map] at key
        exact key
    · have hc' : isComp v = false := by simpa using hc
      exact ps_set F.nd hi k1 (trF_ok F.fit h3 hc') (by
        unfold swapsWith
        cases v <;> first | rfl | cases hc') k2
  · cases h
theorem trM_ok (F : Fit tc X C P G sup xf n) : ∀ {is : List (Bool × Ex)} {es : List Expr}, trM tc is es = true → OkM X C P G is es
  | [], es, h => by
    simp only [trM] at h
    cases es with
    | nil => exact okm_nil
    | cons e es => cases h
  | (b, a) :: as, es, h => by
    simp only [trM] at h
    split at h
    · rename_i x r
      simp only [Bool.and_eq_true] at h
      obtain ⟨⟨h1, h2⟩, h3⟩ := h
      refine okm_cons ?_ (trM_ok F h3) (star_no h2)
      cases b with
      | true =>
        rw [if_pos rfl] at h1
        by_cases hc : isComp x = true
        · cases a <;> simp only [trF] at h1 <;> first | cases h1 | skip
          · exfalso
            split at h1
            · simp only [trE] at h1
              split at h1
              · cases hc
              · cases h1
            · cases h1
          · exfalso
            simp only [trE] at h1
            split at h1
            · cases hc
            · cases h1
          · rename_i elt own tg it ifs
            refine ok_m1o (cpr_use F h1 fun x2 t i2 fs scope p2 ev c1 c2 c3 c4 c5 c6 c7 c8 c9 => ?_)
            subst ev
            have key := okf_cpr (X := X) (C := C) (P := P) (G := G) (elt := x2) (tg := t) (iter := i2) (ifs := fs) (scope := scope) (pos := p2) (ownS := ownOf tc own) (ie := elt) (it := it) (ii := ifs) (t := tg) c1 c2 c3 c4 c5 c6 c7 c8 c9
            rw [own_map] at key
            exact key
        · exact ok_m1o (trF_ok F h1 (by simpa using hc))
      | false =>
        rw [if_neg Bool.false_ne_true] at h1
        exact ok_m1v (ClE.ok (tr_ok a F .E _ h1))
    · cases h
/-- the body of a try -/
theorem FitS.try_ (F : FitS tc X C P G sup xf n) (hc : tc.calm = true) {W : WX} {pn : List (Addr × Obj)} {xe : Value → Shared → Prop} (tk : Takes (X.tr pn xe) W) (ps : PassesOwn (model X.prog X.w) X.A X.env xe) : FitS { tc with suit := false } (X.tr pn xe) (C.wish W) P G sup xf n :=
  ⟨{ core := F.fit.core, N := F.fit.N, nd := F.fit.nd, sc := F.fit.sc, fn := F.fit.fn, calm := F.fit.calm, tk := tk, units := F.fit.units, grd := F.fit.grd, xat := (fun z => by cases z), xis := fun z => by cases z }, fun _ => ps, F.stk, F.kind⟩
theorem FitS.suite (F : FitS tc X C P G sup xf n) {c' c : Nat} (hs : sup c' c = some true) {a : Addr} {dx : Option Addr} {oe : Obj} {fs : List (Nat × D)} {pn : List (Addr × Obj)} (hz : Zc (.ref (C.T.xa c')) dx oe) (hfl : ∃ vs, oe.data = .fields vs) :
    FitS (suTC tc) (X.suite a ((a, oe) :: pn)) (C.exh a (c', fs) dx) P G sup xf n :=
  ⟨{ core := F.fit.core, N := F.fit.N, nd := F.fit.nd, sc := F.fit.sc, fn := F.fit.fn, calm := (fun z => by cases z), tk := takes0, units := F.fit.units, grd := F.fit.grd,
     xat := fun _ i f e pos hv hn hf => ok_xat (F.fit.core.xfc _ _ hs) (F.fit.core.xno _ _ _ hs hf) hz hfl hv hn,
     xis := fun _ i t e y p p2 pos hv hs' hgi hmi hgy hdb hy => ok_xis (F.fit.core.xex _ _ _ hs (fun z => by have hy' : tc.tb.xts.lookup y = some t := hy; rw [z] at hy'; cases hy')) (fun b hb => F.fit.core.xis _ _ _ hb) hz hfl hgi hmi hgy (F.fit.core.xts _ _ hy) hdb hv hs' }, (fun z => by cases z), (fun z => by cases z), F.kind⟩
theorem FitS.suite0 (F : FitS tc X C P G sup xf n) {a : Addr} {oe : Obj} {pn : List (Addr × Obj)} : FitS (exTC tc) (X.suite a ((a, oe) :: pn)) C.exn P G sup xf n :=
  ⟨{ core := F.fit.core, N := F.fit.N, nd := F.fit.nd, sc := F.fit.sc, fn := F.fit.fn, calm := (fun z => by cases z), tk := takes0, units := F.fit.units, grd := F.fit.grd, xat := (fun z => by cases z), xis := fun z => by cases z }, (fun z => by cases z), (fun z => by cases z), F.kind⟩
mutual
theorem trS_ok : ∀ (i : Sm) {tc : TC} {X : Cx} {C : Cf} (F : FitS tc X C P G sup xf n) (s : Stmt), trS tc i s = true → OkS X C P G sup xf i s
  | .asg t e, tc, X, C, F, s, h => by
    simp only [trS] at h
    split at h
    · rename_i tg v pos
      split at h
      · split at h
        · rename_i k
          obtain ⟨h1, w, h2⟩ := trNew_ok F h
          exact ok_asgF (cpr_fin h2) h1
        · cases h
      · rename_i hn
        simp only [Bool.and_eq_true, Bool.not_eq_true'] at h
        obtain ⟨⟨h1, h2⟩, h3⟩ := h
        exact ok_asg (ClE.ok (tr_ok e F.fit .E _ h2)) (fit_tg F.fit h1) (sole_ok (by simpa using hn)) (pair_ok h3) (ae_ok (tg_star h1))
    · cases h
  | .mas is es, tc, X, C, F, s, h => by
    simp only [trS] at h
    split at h
    · rename_i ts k tp vs k2 vp pos
      simp only [Bool.and_eq_true, decide_eq_true_eq] at h
      obtain ⟨⟨⟨h1, h2⟩, h3⟩, h4⟩ := h
      have hm := trM_ok F.fit h3
      split at h4
      · rename_i hsw
        exact ok_mas hm (fit_tg F.fit (e := .Tuple ts k tp) h4) (sole_ok rfl) (swp_none F.kind (by rw [F.fit.sc]; exact hsw)) h2 h1
      · rename_i ns hsw
        simp only [Bool.and_eq_true, decide_eq_true_eq] at h4
        obtain ⟨⟨⟨h5, h6⟩, h7⟩, h8⟩ := h4
        have hc := (F.fit.calm h5).1
        obtain ⟨e1, e2, e3⟩ := swp_some (env := X.env) (kt := k) (k2 := k2) (pt := tp) (pv := vp) F.kind (by rw [F.fit.sc]; exact hsw)
        rcases e3 with ⟨x, y, px, py, rfl, rfl, n1, l1, l2⟩ | ⟨x, y, z, px, py, pz, rfl, rfl, n1, n2, n3, l1, l2, l3⟩
        · match vs, e2 with
          | [a, b], _ =>
            match is, h1 with
            | [j1, j2], _ =>
              simp only [List.zip_cons_cons, List.zip_nil_right, List.all_cons, List.all_nil, Bool.and_true, Bool.and_eq_true, decide_eq_true_eq] at h8
              have n' : j1 ≠ j2 := by simpa using h7
              exact ok_par hc F.nd (by rw [F.fit.N]; exact h8.1) (by rw [F.fit.N]; exact h8.2) n' l1 l2 hm e1 (sole_ok rfl)
        · match vs, e2 with
          | [a, b, c], _ =>
            match is, h1 with
            | [j1, j2, j3], _ =>
              simp only [List.zip_cons_cons, List.zip_nil_right, List.all_cons, List.all_nil, Bool.and_true, Bool.and_eq_true, decide_eq_true_eq] at h8
              obtain ⟨m1, m2, m3⟩ := h8
              have n' : (j1 ≠ j2 ∧ j1 ≠ j3) ∧ j2 ≠ j3 := by simpa using h7
              exact ok_par3 hc F.nd (by rw [F.fit.N]; exact m1) (by rw [F.fit.N]; exact m2) (by rw [F.fit.N]; exact m3) n'.1.1 n'.1.2 n'.2 l1 l2 l3 hm e1 (sole_ok rfl)
      · cases h4
    · cases h
  | .own k e, tc, X, C, F, s, h => by
    simp only [trS] at h
    exact ok_own (trNew_ok F h).1
  | .new k e, tc, X, C, F, s, h => by
    simp only [trS] at h
    exact ok_new (trNew_ok F h).1
  | .frz k, tc, X, C, F, s, h => by simp only [trS] at h; cases h
  | .aug k o e, tc, X, C, F, s, h => by
    simp only [trS] at h
    split at h
    · simp only [Bool.and_eq_true, decide_eq_true_eq] at h
      obtain ⟨⟨⟨h1, h2⟩, h3⟩, h4⟩ := h
      have hi := h1
      rw [← F.fit.N] at hi
      obtain ⟨k1, k2⟩ := fit_sto F.fit h2
      have he := ClE.ok (tr_ok e F.fit .E _ h3)
      split at h4
      · exact ok_augA F.nd hi k1 k2 he
      · exact ok_augS F.nd hi k1 k2 he
      · cases h4
    · cases h
  | .app k e, tc, X, C, F, s, h => by
    simp only [trS] at h
    split at h
    · simp only [Bool.and_eq_true, decide_eq_true_eq] at h
      obtain ⟨⟨⟨⟨rfl, h2⟩, h3⟩, h4⟩, h5⟩ := h
      exact ok_app (fit_pv F.fit h2) (ClE.ok (tr_ok e F.fit .E _ h3)) (star_no h4) h5
    · cases h
  | .ext k e, tc, X, C, F, s, h => by simp only [trS] at h; cases h
  | .ins k a e, tc, X, C, F, s, h => by
    simp only [trS] at h
    split at h
    · simp only [Bool.and_eq_true, decide_eq_true_eq] at h
      obtain ⟨⟨⟨⟨⟨⟨rfl, h2⟩, h3⟩, h4⟩, h5⟩, h6⟩, h7⟩ := h
      exact ok_ins (fit_pv F.fit h2) (ClE.ok (tr_ok a F.fit .E _ h3)) (ClE.ok (tr_ok e F.fit .E _ h4)) (star_no h5) (star_no h6) h7
    · cases h
  | .sti k a e, tc, X, C, F, s, h => by
    simp only [trS] at h
    split at h
    · simp only [Bool.and_eq_true] at h
      obtain ⟨⟨⟨h2, h3⟩, h4⟩, h5⟩ := h
      exact ok_sti (fit_pv F.fit h2) (ClE.ok (tr_ok a F.fit .E _ h3)) (ClE.ok (tr_ok e F.fit .E _ h4)) h5 (sole_ok (by simp [isNm])) (pair_ok (by simp [isTp]))
    · cases h
  | .sta k f e, tc, X, C, F, s, h => by
    simp only [trS] at h
    split at h
    · simp only [Bool.and_eq_true, decide_eq_true_eq] at h
      obtain ⟨⟨h2, h3⟩, h4⟩ := h
      exact ok_sta F.fit.core.inj (F.fit.core.nm _ _ h3) (fun c hc => by
        have := F.fit.core.isAt c f hc
        rw [F.fit.core.nm _ _ h3] at this
        exact this) (fit_pv F.fit h2) (ClE.ok (tr_ok e F.fit .E _ h4)) sole_att
    · cases h
  | .exp e, tc, X, C, F, s, h => by
    simp only [trS] at h
    split at h
    · rename_i v p
      simp only [Bool.and_eq_true, Bool.not_eq_true'] at h
      refine ok_exp (ClE.ok (tr_ok e F.fit .E _ h.1)) ?_
      have h2 := h.2
      unfold swapsWith
      cases v <;> first | rfl | cases h2
    · cases h
  | .ret e, tc, X, C, F, s, h => by
    simp only [trS] at h
    split at h
    · have he := tr_ok e F.fit .E _ h
      exact ok_ret (ClE.ok he) (ClE.v he)
    · cases h
  | .retN, tc, X, C, F, s, h => by
    simp only [trS] at h
    split at h
    · exact ok_retN
    · cases h
  | .pass, tc, X, C, F, s, h => by
    simp only [trS] at h
    split at h
    · exact ok_pass
    · cases h
  | .iff t a b, tc, X, C, F, s, h => by
    simp only [trS] at h
    split at h
    · simp only [Bool.and_eq_true] at h
      exact ok_iff (ClT.t (tr_ok t F.fit .T _ h.1.1)) (trSs_ok a F _ h.1.2) (trSs_ok b F _ h.2)
    · cases h
  | .whl t b, tc, X, C, F, s, h => by
    simp only [trS] at h
    split at h
    · simp only [Bool.and_eq_true] at h
      exact ok_whl (F.pass h.1.1) (ClT.t (tr_ok t F.fit .T _ h.1.2)) (trSs_ok b F _ h.2)
    · cases h
  | .for_ tg it b, tc, X, C, F, s, h => by
    simp only [trS] at h
    split at h
    · rename_i t x y p
      simp only [Bool.and_eq_true] at h
      obtain ⟨⟨⟨⟨⟨h1, h2⟩, h3⟩, ht0⟩, h4⟩, h5⟩ := h
      exact ok_for (F.pass h1) (F.fit.calm h1).1 (ClI.s (tr_ok it F.fit .I _ h4) t ht0) (fit_tg F.fit h3) (trSs_ok b F _ h5) (fun z => by cases x <;> first | rfl | cases h2)
    · cases h
  | .rai c as, tc, X, C, F, s, h => by
    simp only [trS] at h
    split at h
    · simp only [Bool.and_eq_true, decide_eq_true_eq] at h
      obtain ⟨⟨⟨⟨h1, h2⟩, h3⟩, h4⟩, h5⟩ := h
      obtain ⟨k1, k2, k3, k4⟩ := F.fit.core.xps _ _ h2
      cases as with
      | nil => exact ok_rai0 (F.fit.calm h1).1 F.fit.tk k4 k2 k3 (F.fit.core.xfe c) (fit_gl F.fit h3) k1 (dbg_ok h4)
      | cons _ _ => cases h5
    · simp only [Bool.and_eq_true, decide_eq_true_eq] at h
      obtain ⟨⟨⟨⟨⟨h1, h2⟩, h3⟩, h4⟩, h5⟩, h6⟩ := h
      obtain ⟨k1, k2⟩ := F.fit.core.xcs _ _ h2
      exact ok_rai F.fit.core.inj (F.fit.calm h1).1 F.fit.tk (k2 X rfl) (F.fit.core.xfe c) (F.fit.calm h1).2.r (fit_gl F.fit h3) k1 (dbg_ok h4) h5 (tr_oks as F.fit _ h5 h6).a
    · cases h
  | .try_ b c nn u, tc, X, C, F, s, h => by
    simp only [trS] at h
    split at h
    · simp only [Bool.and_eq_true, Bool.or_eq_true, decide_eq_true_eq] at h
      obtain ⟨⟨⟨⟨⟨h1, h2⟩, h3⟩, h4⟩, h5⟩, h6⟩ := h
      have k1 : X.mg _ = some (.ref (C.T.xa c)) := h2.elim (fun z => (F.fit.core.xcs _ _ z).1) fun z => (F.fit.core.xps _ _ z).1
      obtain ⟨q1, q2, q3⟩ := F.stk h1
      split at h6
      · rename_i k z
        simp only [Bool.and_eq_true, decide_eq_true_eq] at h6
        obtain ⟨⟨h7, h8⟩, h9⟩ := h6
        refine ok_tryN q1 q2 F.nd (by rw [F.fit.N]; exact h7) (by show X.env.scope.names.lookup z = _; rw [F.fit.sc]; exact locB_ok h8) (fit_gl F.fit h3) k1 (dbg_ok h4) F.fit.tk F.fit.core.xfe q3 (fun c' b' hb => F.fit.core.sup _ _ _ hb)
          (fun W pn xe tk ps => trSs_ok b (F.try_ h1 tk ps) _ ?_) (fun a oe c' dx fs pn hs hz hfl => trSs_ok u (F.suite hs hz hfl) _ h9)
        exact h5
      · refine ok_try0 q1 q2 (fit_gl F.fit h3) k1 (dbg_ok h4) F.fit.tk q3 (fun c' b' hb => F.fit.core.sup _ _ _ hb)
          (fun W pn xe tk ps => trSs_ok b (F.try_ h1 tk ps) _ ?_) (fun a oe pn => trSs_ok u F.suite0 _ h6)
        exact h5
      · cases h6
    · cases h
theorem trSs_ok : ∀ (is : List Sm) {tc : TC} {X : Cx} {C : Cf} (F : FitS tc X C P G sup xf n) (ss : List Stmt), trSs tc is ss = true → OkSs X C P G sup xf is ss
  | [], tc, X, C, F, ss, h => by
    simp only [trSs] at h
    cases ss with
    | nil => exact oks_nil
    | cons e es => cases h
  | a :: as, tc, X, C, F, ss, h => by
    simp only [trSs] at h
    split at h
    · exact oks_frz (trSs_ok as F ss h)
    · split at h
      · simp only [Bool.and_eq_true] at h
        exact oks_cons (trS_ok a F _ h.1) (trSs_ok as F _ h.2)
      · cases h
end
end
end Iv

set_option Elab.async false
set_option linter.all false
set_option maxRecDepth 100000
set_option maxHeartbeats 4000000
/-! IvS: a def whose text is checked does what the run says. -/
namespace Iv
open PySem PySem.Spec L2
open PyProof.Rows hiding St
/-- the check's start in a def -/
def defTC (tb : Tb) (N : List Str) (sc : Scope) : TC := ⟨tb, N, sc, fun _ => true, true, false⟩
/-- a def's text, checked -/
structure DefOk (tb : Tb) (Z : Core) (T : Tab) (f : Nat) (d : Fd) : Prop where
  ex : ∃ (x qual : Str) (params : Arguments) (body : List Stmt) (scope : Scope) (kws : List (Str × V)) (fd : FuncData) (N ps : List Str), FunD Z.K x qual params body scope [] kws (T.fa f) fd ∧ FnScope N ps scope ∧ Binds Z.K fd ps [] ∧
    trSs (defTC tb N scope) d.body body = true ∧ d.np = ps.length ∧ d.ns = N.length
section
variable {tb : Tb} {Z : Core} {T : Tab} {Q : Pg} {m : Nat}
theorem world_back {B : Base} {ω ω' : Wd} {H H' : Hp} (e : StepS ω.O ω H ω' H') : Ext ω H { ω' with O := ω.O } H' :=
  ⟨e.phi, rfl, fun a o h n => by
    obtain ⟨h1, h2, _⟩ := e.at_ a o h n (Classical.em _)
    exact ⟨h1, h2⟩⟩
theorem start_len {N ps : List Str} {vs : List V} {ds : List D} (hp : N.take ps.length = ps) (hl : ds.length = ps.length) (hv : ds.length = vs.length) : (startE N.length ds).length = (L2.start N vs).length := by
  have hpl : ps.length ≤ N.length := by have := congrArg List.length hp; rw [List.length_take] at this; omega
  unfold startE L2.start
  rw [List.length_append, List.length_append, List.length_map, List.length_map, List.length_replicate, List.length_replicate]
  omega
theorem startE_get {n i : Nat} {ds : List D} {s : Sl} (h : (startE n ds)[i]? = some s) (hs : s ≠ .no) : ∃ d, s = .d d ∧ ds[i]? = some d := by
  unfold startE at h
  by_cases hi : i < ds.length
  · rw [List.getElem?_append_left (by simpa using hi), List.getElem?_map] at h
    cases e : ds[i]? with
    | none => rw [e] at h; cases h
    | some d => rw [e] at h; cases h; exact ⟨d, rfl, rfl⟩
  · rw [List.getElem?_append_right (by simpa using hi), List.getElem?_replicate] at h
    split at h
    · cases h; exact (hs rfl).elim
    · cases h
theorem start_get {N : List Str} {vs : List V} {i : Nat} {v : V} (h : vs[i]? = some v) : (L2.start N vs)[i]? = some (some v) := by
  unfold L2.start
  have hi : i < vs.length := (List.getElem?_eq_some_iff.mp h).1
  rw [List.getElem?_append_left (by simpa using hi), List.getElem?_map, h]
  rfl
theorem simEnv_start {B : Base} {ω : Wd} {H : Hp} {N ps : List Str} {vs : List V} {ds : List D} {me : Me} (hp : N.take ps.length = ps) (hl : ds.length = ps.length) (r : RelDs B ω H ds vs) : SimEnv B ω me (startE N.length ds) (L2.start N vs) H := by
  refine ⟨start_len hp hl r.length, fun i d h => ?_, fun i c h => ?_, fun i j c e a h1 => ?_, fun i h => ?_⟩
  · obtain ⟨d', e, hd⟩ := startE_get h (by intro z; cases z)
    cases e
    obtain ⟨v, h1, h2⟩ := r.get hd
    exact ⟨v, start_get h1, h2⟩
  · obtain ⟨d', e, hd⟩ := startE_get h (by intro z; cases z)
    cases e
  · obtain ⟨d', e, hd⟩ := startE_get h1 (by intro z; cases z)
    cases e
  · obtain ⟨d', e, hd⟩ := startE_get h (by intro z; cases z)
    cases e
theorem fit_def (g : GF tb Z T Q.pt (run Q m) Q.sup Q.xf (2 * m)) {N ps : List Str} {qual : Str} {scope : Scope} {f : Addr} {cdv : Value} {A : Around} {outer : List Env} {s : Shared} {H : Hp} {E : XK} {me : Me} (S : FnScope N ps scope)
    (hr : Rm (2 * m + 1) (A.deeper (envOfC qual scope s.heap.objs.size f cdv))) :
    FitS (defTC tb N scope) (cxOf (L2.CX Z.prog Z.w) Z.prog Z.w Z.K Z.mg Z.base N qual scope f cdv A outer s H E) ⟨T, me, fun cls d _ H' => E cls d H', none, none⟩ Q.pt (run Q m) Q.sup Q.xf (2 * m) :=
  ⟨{ core := g, N := rfl, nd := S.nd, sc := rfl, fn := fun _ _ => rfl, calm := fun _ => ⟨rfl, hr⟩, tk := takes_of rfl rfl rfl rfl, units := (by have := hr.r.un; show (A.deeper _).units + 200 < cLine; omega), grd := hr.g, xat := (fun z => by cases z), xis := (fun z => by cases z) },
    fun _ => passes_of rfl, fun _ => ⟨rfl, rfl, rfl⟩, S.kind⟩
/-- THE RULE for a def where nothing is being shown -/
theorem fun_o {P : Program} {w : World} {K : PySem.W.Frag} {mg : Str → Option Value} {base : Heap} {x qual : Str} {params : Arguments} {body : List Stmt} {scope : Scope} {dvs : List V} {kws : List (Str × V)} {f : Addr} {fd : FuncData} {CX : CXT} {N ps : List Str} {k : Nat} {sp : Sp}
    (F : FunD K x qual params body scope dvs kws f fd) (S : FnScope N ps scope) (len : ∀ vs H Q E, sp vs H Q E → vs.length = ps.length)
    (hbody : ∀ (cdv : Value) (A : Around) (outer : List Env) (s : Shared) (H : Hp) (vs : List V) (Q : VK) (E : XK), Rm k (A.deeper (envOfC qual scope s.heap.objs.size f cdv)) → sp vs H Q E →
      ∃ t, PSs (cxOf CX P w K mg base N qual scope f cdv A outer s H E) body t ∧ t { nx := fun _ H' => Q .non H', rt := Q } (L2.start N vs) H) : FnO P w K mg base CX (k + 1) f fd ps sp := by
  obtain ⟨oc, od, dV, kV, doc, pm, an, cdv, ct, osl, rfl, lk, hcd, _, _⟩ := F.ex
  refine ⟨len, fun A outer s H args us vs Q E hr e0 hb r hsp => ?_⟩
  obtain ⟨t, ht, hq⟩ := hbody cdv A outer s H vs Q E (hr.deeper _) hsp
  have keep : ∀ b o, base.get? b = some o → s.heap.get? b = some o := fun b o e => (e0.bs b o e).1
  have KX : K.In s.heap := e0.mod.kin.keeps keep
  refine codeAny_call_function hr.r.depth (KX _ _ lk) rfl S.co S.gen rfl (PySem.W.codeRec_of KX hcd) (hb _ _ _ _ (wpAny_newFunctionEnv_cells S.kind (fun ⟨n, v⟩ hy => ?_) fun env he s1 x => ?_))
  · rcases S.par n (List.of_mem_zip hy).1 with q | q
    · exact .inl q
    · exact .inr ⟨q, PySem.W.cellsFrom_some _ _ _ (.inl q)⟩
  subst he
  refine ⟨(e0.mod.nolimit.keeps keep).keeps x.toInCall.keep, codeAny_func (wpAny_mono (ht.run [] s1 (L2.start N vs) H _ (inv_start S hr.r.hd e0 (len _ _ _ _ hsp) r x) hq) (fun fl s' hs => ?_) fun e s' hs => hs)⟩
  match fl, hs with
  | .ret u, ⟨v, σ', H', J, rv, q⟩ => exact ⟨v, H', J.os, J.bare, J.base, J.hok, rv, q⟩
  | .next, ⟨σ', H', J, q⟩ => exact ⟨V.non, H', J.os, J.bare, J.base, J.hok, rfl, q⟩
  | .brk, ⟨_, _, _, q⟩ => exact False.elim q
  | .cont, ⟨_, _, _, q⟩ => exact False.elim q
/-- a def, called -/
theorem def_fn (g : GF tb Z T Q.pt (run Q m) Q.sup Q.xf (2 * m)) {f : Nat} {d : Fd} (hd : Q.fns f = some d) {x qual : Str} {params : Arguments} {body : List Stmt} {scope : Scope} {kws : List (Str × V)} {fd : FuncData} {N ps : List Str}
    (F : FunD Z.K x qual params body scope [] kws (T.fa f) fd) (S : FnScope N ps scope) (ht : trSs (defTC tb N scope) d.body body = true) (hnp : d.np = ps.length) (hns : d.ns = N.length) :
    FnO Z.prog Z.w Z.K Z.mg Z.base (L2.CX Z.prog Z.w) (2 * (m + 1)) (T.fa f) fd ps (spF ⟨Z.K, T⟩ ((run Q (m + 1)).call f)) := by
  have hcall : ∀ ds st, (run Q (m + 1)).call f ds st = if ds.length = d.np then (match exs Q.pt (run Q m) Q.sup Q.xf none d.body (startE d.ns ds) st with
        | .nx _ s => .ok .non s
        | .rt x s => .ok x s
        | .exc c fs _ s => .exc c fs s
        | .stuck => .stuck) else .stuck := fun ds st => by
    show (match Q.fns f with | some d => _ | none => _) = _
    rw [hd] <;> rfl
  refine fun_o F S (fun vs H Q' E h => ?_) (fun cdv A outer s H vs Q' E hr h => ?_)
  · obtain ⟨ω, st, ds, S1, r, p⟩ := h
    rw [hcall] at p
    split at p
    · rename_i hl
      rw [← r.length, hl, hnp]
    · exact p.elim
  · obtain ⟨ω, st, ds, S1, r, p⟩ := h
    rw [hcall] at p
    split at p
    · rename_i hl
      have Ft := fit_def (me := ⟨none, none⟩) (outer := outer) (H := H) (E := E) g S hr
      refine ⟨_, trSs_ok d.body Ft body ht, ω.O, ω, startE d.ns ds, st, ⟨⟨?_, S1, trivial⟩, fun a h => h, fun i c a h => ?_⟩, ?_⟩
      · rw [hns]; exact simEnv_start S.pre (by rw [hl, hnp]) r
      · obtain ⟨d', e, hd⟩ := startE_get h (by intro z; cases z)
        cases e
      · revert p
        cases exs Q.pt (run Q m) Q.sup Q.xf none d.body (startE d.ns ds) st with
        | nx env' s' => exact fun p σ' ω' H' x S' => p { ω' with O := ω.O } H' (world_back (B := ⟨Z.K, T⟩) x) (S'.sim.st.less S'.amb) _ .non
        | rt y s' => exact fun p v ω' H' x z a r => p { ω' with O := ω.O } H' (world_back (B := ⟨Z.K, T⟩) x) (z.less a) v (r.keep (Keep.less a))
        | exc c fs env' s' =>
          intro p σ' ω' H' dx x S' hx
          refine p { ω' with O := ω.O } H' dx (world_back (B := ⟨Z.K, T⟩) x) (S'.sim.st.less S'.amb) ?_
          cases dx with
          | none => exact hx
          | some dd =>
            obtain ⟨vs, h1, h2, h3⟩ := hx
            exact ⟨vs, h1, (fun z => h2 (z.imp (S'.amb _) id)), fun n d hn => let ⟨v, q1, q2⟩ := h3 n d hn; ⟨v, q1, q2.keep (Keep.less S'.amb)⟩⟩
        | stuck => exact fun p => p
    · exact p.elim
theorem def_ok (g : GF tb Z T Q.pt (run Q m) Q.sup Q.xf (2 * m)) {f : Nat} {d : Fd} (hd : Q.fns f = some d) (D0 : DefOk tb Z T f d) (hxf : ∀ c, Q.xf c = T.xf c) (X : Cx) (hX : coreOf X = Z) : FnF X T (2 * (m + 1)) f [] (spF ⟨Z.K, T⟩ ((run Q (m + 1)).call f)) := by
  subst hX
  obtain ⟨x, qual, params, body, scope, kws, fd, N, ps, F, S, hb, ht, hnp, hns⟩ := D0.ex
  exact ⟨fd, ps, [], def_fn g hd F S ht hnp hns, F.kp, hb, .nil⟩
/-- a class's __init__, run by the class's call -/
theorem init_ok (g : GF tb Z T Q.pt (run Q m) Q.sup Q.xf (2 * m)) {c f : Nat} {d : Fd} (hc : Q.cls c = some f) (hd : Q.fns f = some d) (D0 : DefOk tb Z T f d) (M : Mk Z.K (T.ca c) (T.fa f)) (X : Cx) (hX : coreOf X = Z) : FnM X T (2 * (m + 1)) c [] (spI ⟨Z.K, T⟩ c ((run Q (m + 1)).make c)) := by
  subst hX
  obtain ⟨x, qual, params, body, scope, kws, fd, N, ps, F, S, hb, ht, hnp, hns⟩ := D0.ex
  have hcall : ∀ ds st, (run Q (m + 1)).make c ds st = if ds.length + 1 = d.np then (match exs Q.pt (run Q m) Q.sup Q.xf none d.body (.ow (.ins c []) :: startE (d.ns - 1) ds) st with
          | .nx (.ow (.ins c' fs) :: _) s => if c' = c then .ok (.obj c fs) s else .stuck
          | .exc c fs _ s => .exc c fs s
          | _ => .stuck) else .stuck := fun ds st => by
    show (match Q.cls c with | some f => _ | none => _) = _
    rw [hc]
    show (match Q.fns f with | some d => _ | none => _) = _
    rw [hd] <;> rfl
  refine ⟨T.fa f, fd, ps, [], M, ?_, hb, .nil⟩
  refine fun_o F S (fun vs H Q' E h => ?_) (fun cdv A outer s H vs Q' E hr h => ?_)
  · obtain ⟨ω, st, ds, x, dx, ws, H0, rfl, h1, h2, h3, h4, S1, r, p⟩ := h
    rw [hcall] at p
    split at p
    · rename_i hl
      rw [List.length_cons, ← r.length, hl, hnp]
    · exact p.elim
  · obtain ⟨ω, st, ds, x, dx, ws, H0, rfl, h1, h2, h3, h4, S1, r, p⟩ := h
    rw [hcall] at p
    split at p
    · rename_i hl
      have Ft := fit_def (me := ⟨some x, none⟩) (outer := outer) (H := H) (E := E) g S hr
      have hpl : ps.length ≤ N.length := by have := congrArg List.length S.pre; rw [List.length_take] at this; omega
      have x0 : Ext ω H0 ω (upd H0 dx (.own x)) := .new h2
      have hx1 : upd H0 dx (.own x) x = none := by rw [upd_ne (Ne.symm h3)]; exact h1
      have S2 : SimSt ⟨X.K, T⟩ ω st (upd H0 dx (.own x)) := S1.new h2
      have k2 : Keep ω (upd H0 dx (.own x)) { ω with O := fun a => ω.O a ∨ a = x } H := by rw [h4]; exact Keep.more hx1
      have S3 : SimSt ⟨X.K, T⟩ { ω with O := fun a => ω.O a ∨ a = x } st H := by rw [h4]; exact S2.more hx1
      have r3 : RelDs ⟨X.K, T⟩ { ω with O := fun a => ω.O a ∨ a = x } H ds ws := (r.keep x0.keep).keep k2
      have nox : ¬ ω.O x := fun z => by
        have := S1.trO x z
        rw [h1] at this; cases this
      have ext0 : Ext ω H0 ω H := by
        rw [h4]
        exact x0.trans (.new hx1)
      have eN : ∃ n0 N', N = n0 :: N' := by
        cases N with
        | nil =>
          have : ps.length = 0 := by simpa using hpl
          omega
        | cons a b => exact ⟨a, b, rfl⟩
      have es : L2.start N (.ref x :: ws) = some (.ref x) :: L2.start N.tail ws := by
        obtain ⟨n0, N', rfl⟩ := eN
        show _ = some (V.ref x) :: L2.start N' ws
        unfold L2.start
        simp
      have sE : SimEnv ⟨X.K, T⟩ { ω with O := fun a => ω.O a ∨ a = x } ⟨some x, none⟩ (.ow (.ins c []) :: startE (d.ns - 1) ds) (L2.start N (.ref x :: ws)) H := by
        have hpt : N.tail.take ps.tail.length = ps.tail := by
          obtain ⟨n0, N', rfl⟩ := eN
          cases ps with
          | nil => simp
          | cons q qs =>
            have := S.pre
            rw [List.length_cons, List.take_succ_cons] at this
            injection this
        have hlt : ds.length = ps.tail.length := by rw [List.length_tail]; omega
        have hns' : d.ns - 1 = N.tail.length := by rw [List.length_tail, hns]
        rw [hns', es]
        have s0 := simEnv_start (B := ⟨X.K, T⟩) (me := ⟨some x, none⟩) hpt hlt r3
        refine ⟨by rw [List.length_cons, List.length_cons, s0.len], fun i d h => ?_, fun i c' h => ?_, fun i j c' e a g1 g2 g3 g4 => ?_, fun i h => ?_⟩
        · cases i with
          | zero => cases h
          | succ i => exact s0.val i d (by simpa using h)
        · cases i with
          | zero =>
            have h' : c' = .ins c [] := by
              have : some (Sl.ow (.ins c [])) = some (Sl.ow c') := h
              cases this; rfl
            subst h'
            refine ⟨x, rfl, ⟨dx, [], by rw [h4]; exact upd_same, .nil⟩, .inr rfl, fun _ => rfl⟩
          | succ i =>
            obtain ⟨a, q1, q2, q3, q4⟩ := s0.own i c' (by simpa using h)
            exact ⟨a, by simpa using q1, q2, q3, fun z => by cases z⟩
        · cases i with
          | zero => cases j with
            | zero => rfl
            | succ j =>
              obtain ⟨d', e', hd⟩ := startE_get (show (startE N.tail.length ds)[j]? = some (.ow e) by simpa using g2) (by intro z; cases z)
              cases e'
          | succ i =>
            obtain ⟨d', e', hd⟩ := startE_get (show (startE N.tail.length ds)[i]? = some (.ow c') by simpa using g1) (by intro z; cases z)
            cases e'
        · cases i with
          | zero => cases h
          | succ i =>
            obtain ⟨a, q1, q2⟩ := s0.xcp i (by simpa using h)
            exact ⟨a, q1, by simpa using q2⟩
      refine ⟨_, trSs_ok d.body Ft body ht, ω.O, { ω with O := fun a => ω.O a ∨ a = x }, .ow (.ins c []) :: startE (d.ns - 1) ds, st, ⟨⟨sE, S3, trivial⟩, fun a h => .inl h, fun i c' a g1 g2 => ?_⟩, ?_⟩
      · cases i with
        | zero =>
          rw [es] at g2
          cases g2
          exact nox
        | succ i =>
          obtain ⟨d', e', hd⟩ := startE_get (show (startE (d.ns - 1) ds)[i]? = some (.ow c') by simpa using g1) (by intro z; cases z)
          cases e'
      · have back : ∀ {ω' : Wd} {H' : Hp}, StepS ω.O { ω with O := fun a => ω.O a ∨ a = x } H ω' H' → Ext ω H0 { ω' with O := ω.O } H' := fun {ω' H'} e =>
          ⟨fun l a h => e.phi l a h, rfl, fun a o h n => by
            obtain ⟨g1, g2⟩ := ext0.at_ a o h n
            have hax : a ≠ x := ne_of_none h h1
            obtain ⟨q1, q2, _⟩ := e.at_ a o g1 n (by
              by_cases z : ω.O a
              · exact .inl z
              · exact .inr fun w => w.elim z hax)
            exact ⟨q1, q2⟩⟩
        revert p
        cases exs Q.pt (run Q m) Q.sup Q.xf none d.body (.ow (.ins c []) :: startE (d.ns - 1) ds) st with
        | nx env' s' =>
          cases env' with
          | nil => exact fun p => p.elim
          | cons s0 rest =>
            cases s0 with
            | ow cell =>
              cases cell with
              | lst ys => exact fun p => p.elim
              | ins c' fs =>
                intro p σ' ω' H' e S'
                dsimp only at p
                split at p
                · rename_i hcc
                  subst hcc
                  obtain ⟨a, q1, ⟨dx', vs', q2, q2'⟩, q3, q4⟩ := S'.sim.env.own 0 _ rfl
                  have ea : some x = some a := q4 rfl
                  cases ea
                  have nl : ¬ Wd.L { ω' with O := ω.O } x := fun z => by
                    rcases z with z | ⟨l, z⟩
                    · exact nox z
                    · exact S'.sim.st.noO l x z q3
                  exact p { ω' with O := ω.O } H' (back e) (S'.sim.st.less S'.amb) (.obj q2 nl (q2'.keep (Keep.less S'.amb)))
                · exact p.elim
            | no => exact fun p => p.elim
            | d _ => exact fun p => p.elim
            | xc => exact fun p => p.elim
        | rt y s' => exact fun p => p.elim
        | exc c fs env' s' =>
          intro p σ' ω' H' dx x S' hx
          refine p { ω' with O := ω.O } H' dx (back x) (S'.sim.st.less S'.amb) ?_
          cases dx with
          | none => exact hx
          | some dd =>
            obtain ⟨vs, h1, h2, h3⟩ := hx
            exact ⟨vs, h1, (fun z => h2 (z.imp (S'.amb _) id)), fun n d hn => let ⟨v, q1, q2⟩ := h3 n d hn; ⟨v, q1, q2.keep (Keep.less S'.amb)⟩⟩
        | stuck => exact fun p => p.elim
    · exact p.elim
end
end Iv

set_option Elab.async false
set_option linter.all false
set_option maxRecDepth 100000
set_option maxHeartbeats 4000000
/-! IvT: what the head tells of a program; from it: every def does what the run says. -/
namespace Iv
open PySem PySem.Spec L2 PySem.W He
open PyProof.Rows hiding St

/-! ### error classes with __init__ -/
structure ErD where
  cls : Str
  qual : Str
  params : Arguments
  body : List Stmt
  scope : Scope
  ns : List Str
abbrev FnJ : Type := Option (Str × Str × Arguments × FuncBody × Scope × Addr × List Str × Addr)
def fnJ (K : Frag) (x : Str) : FnJ := match K.lookup (ma K (ga K x) "__init__") with
  | some ⟨_, _, .func fd, _⟩ => some (fd.name, fd.qualname, fd.params, fd.body, fd.scope, fd.globals, fd.closure.map (·.1), fd.builtins)
  | _ => none
def ErD.val (d : ErD) : FnJ := some ("__init__", d.qual, d.params, .stmts d.body, d.scope, mainGlobals, ["__class__"], builtinsNs)
def cellA (K : Frag) (x : Str) : Addr := match K.lookup (ma K (ga K x) "__init__") with
  | some ⟨_, _, .func fd, _⟩ => (match fd.closure with | [(_, a)] => a | _ => 0)
  | _ => 0
def codeA (K : Frag) (x : Str) : Addr := match K.lookup (ma K (ga K x) "__init__") with
  | some ⟨_, _, .func fd, _⟩ => (match fd.code with | .ref c => c | _ => 0)
  | _ => 0
def isNoB : Value → Bool
  | .none => true
  | _ => false
def isRefB : Value → Bool
  | .ref _ => true
  | _ => false
def xclsB (K : Frag) (C : Addr) : Bool := match K.lookup C with
  | some ⟨.type "type", _, .cls cd, sl⟩ => (match cd.mro, sl.toList with
    | .ref C' :: bm, [_, _, _, _, some (.builtin n), _] => C' == C && n == "ValueError.__new__" && !cd.hasDel && cd.hasDict && HandSPX.refsVE bm
    | _, _ => false)
  | _ => false
theorem xclsB_ok {K : Frag} {C : Addr} (q : xclsB K C = true) : ∃ nm q N bs bm sn sub ab col dd k0 k1 k2 k3 k5, K.lookup C = some (excClassObj nm q C N bs bm true sn sub ab col dd k0 k1 k2 k3 k5 "ValueError.__new__") ∧ HandSPX.refsVE bm = true := by
  unfold xclsB at q
  split at q
  · rename_i dd cd sl ho
    split at q
    · rename_i C' bm k0 k1 k2 k3 n k5 hm hs
      simp only [Bool.and_eq_true, beq_iff_eq, Bool.not_eq_true'] at q
      obtain ⟨⟨⟨⟨rfl, rfl⟩, hdel⟩, hdct⟩, ht⟩ := q
      obtain ⟨nm, bs, mro, ns, qn, hd, sn, sub, ab, col, del⟩ := cd
      dsimp only at hm hdel hdct
      subst hm hdel hdct
      have hsl : sl = #[k0, k1, k2, k3, some (.builtin "ValueError.__new__"), k5] := by
        obtain ⟨l⟩ := sl
        simp only at hs
        rw [hs]
      subst hsl
      exact ⟨nm, qn, ns, bs, bm, sn, sub, ab, col, dd, k0, k1, k2, k3, k5, ho, ht⟩
    · cases q
  · cases q
/-- what K must say of it -/
def ErD.ok (p : Program) (K : Frag) (e : ErD) : Bool :=
  xclsB K (ga K e.cls) && eqO (findIn K (.ref (ga K e.cls)) "__setattr__") (some (some (.builtin "object.__setattr__"))) && (e.ns.all fun n => decide (findIn K (.ref (ga K e.cls)) n = some none)) &&
  eqO (findIn K (.ref (ga K e.cls)) "__init__") (some (some (.ref (ma K (ga K e.cls) "__init__")))) && decide (typeIn K (.ref (ma K (ga K e.cls) "__init__")) = some (.type "function")) && keepIn K (.ref (ga K e.cls)) &&
  decide (subIn K (.ref (ga K e.cls)) (.type "BaseException") = some true) && decide (subIn K (.ref (ga K e.cls)) (.type "ValueError") = some true) && decide (typeIn K (.ref (ga K e.cls)) = some (.type "type")) &&
  codeIn K (.ref (codeA K e.cls)) e.qual && (match K.lookup (codeA K e.cls) with
    | some ⟨_, _, .fields vs, _⟩ => (match (vs[2]? : Option Value) with | some (.str file _) => (p.main.file : Str) == file | _ => false)
    | _ => false) && (match K.lookup (cellA K e.cls) with
    | some ⟨_, _, .cell (some (.ref D)), _⟩ => D == ga K e.cls
    | _ => false) && eqO (nsIn K cStatics "thirdparty.any") (some none) && eqO (ks_superIn K (ga K e.cls) (ga K e.cls) "__init__") (some (some (.builtin "ValueError.__init__"))) && decide (mroIn K (ga K e.cls) (.ref (ga K e.cls)) = some true) &&
  xfB K (ga K e.cls) && (match K.lookup (ma K (ga K e.cls) "__init__") with
    | some ⟨_, _, .func fd, _⟩ => isRefB fd.code && isNoB fd.defaults
    | _ => false)
/-- what its text must say -/
def ErD.txt (p : Program) (e : ErD) : Bool :=
  !(p.main.scope.names.lookup ("super" : Str)).isSome && (match e.scope.kind with | .function => true | _ => false) && !e.scope.isCoroutine && !e.scope.isGenerator && (e.scope.names.all fun x => decide (x.2 ≠ .cell)) &&
  locB e.scope "self" && (e.ns.all fun n => locB e.scope n) && glB e.scope "super" && (match e.scope.names.lookup ("__class__" : Str) with | some .free => true | _ => false) &&
  (match (e.params.posonlyargs ++ e.params.args).head? with | some a => a.arg == ("self" : Str) | none => false) && (e.ns.all fun n => !(n == ("__debug__" : Str))) && (e.ns.all fun n => !(n == ("self" : Str)))
theorem ErD.xtxt {p : Program} {K : Frag} {e : ErD} (h : e.ok p K = true) (t : e.txt p = true) (ev : fnJ K e.cls = e.val) : XTxt p K (ga K e.cls) (ma K (ga K e.cls) "__init__") (cellA K e.cls) (codeA K e.cls) e.qual e.scope e.params e.body e.ns ∧ XfC K (ga K e.cls) := by
  unfold ErD.ok at h
  simp only [Bool.and_eq_true, decide_eq_true_eq] at h
  obtain ⟨⟨⟨⟨⟨⟨⟨⟨⟨⟨⟨⟨⟨⟨⟨⟨h1, h2⟩, h3⟩, h4⟩, h5⟩, h6⟩, h7⟩, h8⟩, h9⟩, h10⟩, h11⟩, h12⟩, h13⟩, h14⟩, h15⟩, h16⟩, h17⟩ := h
  unfold ErD.txt at t
  simp only [Bool.and_eq_true, Bool.not_eq_true'] at t
  obtain ⟨⟨⟨⟨⟨⟨⟨⟨⟨⟨⟨t1, t2⟩, t3⟩, t4⟩, t5⟩, t6⟩, t7⟩, t8⟩, t9⟩, t10⟩, t11⟩, t12⟩ := t
  refine ⟨{ cls := xclsB_ok h1, sa := eqO_ok h2, noN := h3, iC := eqO_ok h4, tC := h5, kC := h6, exC := h7, veC := h8, tyC := h9, fn := ?_, code := h10, cd := ?_, cell := ?_, opq := eqO_ok h13, sup := eqO_ok h14, selfSub := h15, top := t1, sk := ?_, sco := t3, sge := t4, scl := t5, sse := locB_ok t6, sn := ?_, ssu := ?_, scc := ?_, hd := ?_, dbg := t11, nself := t12 }, xfB_ok h16⟩
  · unfold fnJ at ev
    unfold cellA codeA
    cases q : K.lookup (ma K (ga K e.cls) "__init__") with
    | none => rw [q] at ev; cases ev
    | some o =>
      obtain ⟨oc, od, dt, osl⟩ := o
      rw [q] at ev h17
      cases dt with
      | func fd =>
        obtain ⟨n1, n2, n3, n4, n5, n6, n7, n8, n9, n10, n11, n12, n13, n14, n15⟩ := fd
        have e2 : (some (n1, n2, n3, n4, n5, n6, n7.map (·.1), n15) : FnJ) = (some (("__init__" : Str), e.qual, e.params, FuncBody.stmts e.body, e.scope, mainGlobals, [("__class__" : Str)], builtinsNs) : FnJ) := ev
        simp only [Option.some.injEq, Prod.mk.injEq] at e2
        obtain ⟨g1, g2, g3, g4, g5, g6, g7, g8⟩ := e2
        have g7' : ∃ a, n7 = [(("__class__" : Str), a)] := by
          match n7, g7 with
          | [(s, a)], g => 
            have : s = ("__class__" : Str) := by simpa using g
            subst this
            exact ⟨a, rfl⟩
        obtain ⟨a, g7'⟩ := g7'
        obtain ⟨h17', h18⟩ := Bool.and_eq_true_iff.mp (show (isRefB n13 && isNoB n8) = true from h17)
        have g10 : n8 = .none := by cases n8 <;> first | rfl | cases h18
        have g9 : ∃ c, n13 = .ref c := by
          cases n13 <;> first | exact ⟨_, rfl⟩ | cases h17'
        obtain ⟨c, g9⟩ := g9
        subst g1 g2 g3 g4 g5 g6 g7' g8 g9 g10
        exact ⟨oc, od, n9, n10, n11, n12, n14, osl, rfl⟩
      | _ => cases ev
  · split at h11
    · rename_i hk
      split at h11
      · rename_i file tk hv
        exact ⟨_, _, _, _, file, tk, hk, hv, h11⟩
      · cases h11
    · cases h11
  · split at h12
    · rename_i hk
      have e := beq_iff_eq.mp h12
      subst e
      exact ⟨_, _, _, hk⟩
    · cases h12
  · split at t2
    · assumption
    · cases t2
  · rw [List.all_eq_true] at t7 ⊢
    intro n hn
    rw [decide_eq_true_eq]
    exact locB_ok (t7 n hn)
  · unfold glB at t8
    split at t8
    · assumption
    · cases t8
  · split at t9
    · assumption
    · cases t9
  · split at t10
    · rename_i a ha
      exact ⟨a, ha, by simpa using t10⟩
    · cases t10

/-! ### the Hook -/
def asI (g : Addr → Option Obj) : Nat → List Addr
  | 0 => [mainGlobals, cStatics]
  | n + 1 => growD g (asI g n)
abbrev AlI : Type := Bool × List FnW × List FnJ
def obsI (p : Program) (ds : List DefD) (es : List ErD) (ex : Frag → Bool) (K : Frag) : AlI := ((ds.all fun d => d.ok K) && (es.all fun e => e.ok p K) && ex K, ds.map fun d => fnW K d.at_, es.map fun e => fnJ K e.cls)
def valI (ds : List DefD) (es : List ErD) : AlI := (true, ds.map DefD.val, es.map ErD.val)
def SaysI (p : Program) (ds : List DefD) (es : List ErD) (ex : Frag → Bool) (K : Frag) : Prop := obsI p ds es ex K = valI ds es
def obsIG (n : Nat) (p : Program) (ds : List DefD) (es : List ErD) (ex : Frag → Bool) (g : Addr → Option Obj) : AlI := obsI p ds es ex (frG g (asI g n))
def hookI (n : Nat) (p : Program) (ds : List DefD) (es : List ErD) (ex : Frag → Bool) : PySem.W.Hook where
  α := AlI
  obs := fun s => obsIG n p ds es ex s.heap.get?
  val := fun _ => valI ds es
  says := fun _ h => ∃ K : PySem.W.Frag, K.In h ∧ SaysI p ds es ex K
  of := fun _ _ e => ⟨_, frG_in, e⟩
  keeps := fun _ _ _ ⟨K, hK, c⟩ k => ⟨K, PySem.W.Frag.In.keeps hK k, c⟩
theorem obsIG_eq {n : Nat} {p : Program} {ds : List DefD} {es : List ErD} {ex : Frag → Bool} {g : Addr → Option Obj} {s : Shared} (h : ∀ a, g a = s.heap.get? a) : obsIG n p ds es ex g = (hookI n p ds es ex).obs s := by
  have e : g = s.heap.get? := funext h
  rw [e] <;> rfl
section
variable {p : Program} {ds : List DefD} {es : List ErD} {ex : Frag → Bool} {K : Frag}
theorem SaysI.bools (c : SaysI p ds es ex K) : (ds.all fun d => d.ok K) = true ∧ (es.all fun e => e.ok p K) = true ∧ ex K = true := by
  have c1 : ((ds.all fun d => d.ok K) && (es.all fun e => e.ok p K) && ex K) = true := congrArg (fun z : AlI => z.1) c
  simp only [Bool.and_eq_true] at c1
  exact ⟨c1.1.1, c1.1.2, c1.2⟩
theorem SaysI.def_ (c : SaysI p ds es ex K) {i : Nat} {d : DefD} (h : ds[i]? = some d) : ∃ fd, FunD K d.name d.qual d.params d.body d.scope (d.dvs K) (d.kws K) (fAd K d.at_) fd := by
  have e : ds.map (fun d => fnW K d.at_) = ds.map DefD.val := congrArg (fun z : AlI => z.2.1) c
  have e2 : (ds.map fun d => fnW K d.at_)[i]? = (ds.map DefD.val)[i]? := by rw [e]
  rw [List.getElem?_map, List.getElem?_map, h] at e2
  exact DefD.funD (Option.some.inj e2) (List.all_eq_true.mp c.bools.1 d (List.mem_of_getElem? h))
theorem SaysI.err (c : SaysI p ds es ex K) {i : Nat} {e : ErD} (h : es[i]? = some e) (t : e.txt p = true) : XTxt p K (ga K e.cls) (ma K (ga K e.cls) "__init__") (cellA K e.cls) (codeA K e.cls) e.qual e.scope e.params e.body e.ns ∧ XfC K (ga K e.cls) := by
  have e1 : es.map (fun d => fnJ K d.cls) = es.map ErD.val := congrArg (fun z : AlI => z.2.2) c
  have e2 : (es.map fun d => fnJ K d.cls)[i]? = (es.map ErD.val)[i]? := by rw [e1]
  rw [List.getElem?_map, List.getElem?_map, h] at e2
  exact ErD.xtxt (List.all_eq_true.mp c.bools.2.1 e (List.mem_of_getElem? h)) t (Option.some.inj e2)
end

/-! ### a program -/
/-- a def with its slots, its parameters, its text in the small language -/
structure DfI where
  d : DefD
  N : List Str
  ps : List Str
  ir : List Sm
def DfI.fd (i : DfI) : Fd := ⟨i.ps.length, i.N.length, i.ir⟩
/-- a constant of the module -/
inductive Ct where | int (i : Int) | str (s : Str) | fn (f : Nat)
def Ct.d : Ct → D
  | .int i => .int i
  | .str s => .str s
  | .fn f => .fn f
/-- a class that isinstance asks an error for -/
inductive XT where | own (x : Str) | ve | le | re
def XT.nm : XT → Str
  | .own x => x
  | .ve => "ValueError"
  | .le => "LookupError"
  | .re => "RuntimeError"
def XT.v (K : Frag) : XT → Value
  | .own x => .ref (ga K x)
  | .ve => .type "ValueError"
  | .le => .type "LookupError"
  | .re => .type "RuntimeError"
def XT.ok (K : Frag) : XT → Bool
  | .own x => (Fa.glo x).ok K
  | t => (Fa.free t.nm).ok K
structure Prog where
  prog : Program
  tb : Tb
  defs : List DfI
  errs : List ErD
  clss : List (Str × Nat)
  meths : List (Nat × Nat × Nat)
  ats : List (Nat × Nat)
  fnv : List Nat
  cts : List (Str × Ct)
  sups : List (Nat × Nat × Bool)
  fuel : Nat
  owns : List Nat := []
  eqs : List (Nat × Nat) := []
  plx : List Str := []
  xts : List XT := []
  xiss : List (Nat × Nat × Bool) := []
/-- the names of marks on objects, all different -/
def nmOf (nms : List Str) (i : Nat) : Str := match nms[i]? with
  | some x => x
  | none => ⟨(List.replicate (i + 100) 33).toArray⟩
def Prog.xf (R : Prog) (c : Nat) : List Nat := match R.errs[c]? with
  | some e => e.ns.map fun n => R.tb.nms.idxOf n
  | none => []
/-- an error class by its number: those with __init__ first -/
def Prog.xcl (R : Prog) (c : Nat) : Option Str := match R.errs[c]? with
  | some e => some e.cls
  | none => R.plx[c - R.errs.length]?
def Prog.T (R : Prog) (K : Frag) : Tab where
  fa := fun i => match R.defs[i]? with | some d => fAd K d.d.at_ | none => 0
  ca := fun c => match R.clss[c]? with | some q => ga K q.1 | none => 0
  xa := fun c => match R.xcl c with | some x => ga K x | none => 0
  nm := nmOf R.tb.nms
  xf := R.xf
  xp := fun c => match R.errs[c]? with | some _ => false | none => (R.plx[c - R.errs.length]?).isSome
  xt := fun t => match R.xts[t]? with | some q => q.v K | none => .none
def Prog.sup (R : Prog) (a b : Nat) : Option Bool := (R.sups.find? fun q => q.1 == a && q.2.1 == b).map (·.2.2)
def Prog.pt (R : Prog) : Pt where
  gl := fun k => (R.cts[k]?).map fun q => q.2.d
  meth := fun c m => (R.meths.find? fun q => q.1 == c && q.2.1 == m).map (·.2.2)
  isFn := fun f => R.fnv.contains f
  isAt := fun c m => R.ats.contains (c, m)
  own := fun c => R.owns.contains c
  eqf := fun c => (R.eqs.find? fun q => q.1 == c).map (·.2)
  xis := fun c t => (R.xiss.find? fun q => q.1 == c && q.2.1 == t).map (·.2.2)
def Prog.pg (R : Prog) : Pg where
  fns := fun i => (R.defs[i]?).map DfI.fd
  cls := fun c => (R.clss[c]?).map (·.2)
  pt := R.pt
  sup := R.sup
  xf := R.xf
  fuel := R.fuel
def Ct.ok (K : Frag) (x : Str) : Ct → Bool
  | .int i => (Fa.int x i).ok K
  | .str s => (Fa.str x s).ok K
  | .fn _ => (Fa.glo x).ok K
/-- what K must say -/
def Prog.ex0 (R : Prog) (K : Frag) : Bool :=
  (R.tb.fns.all fun q => (Fa.glo q.1).ok K) && (R.tb.cls.all fun q => (Fa.glo q.1).ok K) && (R.tb.xcs.all fun q => (Fa.glo q.1).ok K) && (R.clss.all fun q => (Fa.cls q.1).ok K && (Fa.mkr q.1).ok K) &&
  (R.meths.all fun q => match R.clss[q.1]?, R.tb.nms[q.2.1]? with | some c, some m => (Fa.meth c.1 m).ok K | _, _ => false) &&
  (R.ats.all fun q => match R.clss[q.1]?, R.tb.nms[q.2]? with | some c, some m => (Fa.noat c.1 m).ok K | _, _ => false) &&
  (R.cts.all fun q => q.2.ok K q.1) && (R.sups.all fun q => match R.xcl q.1, R.xcl q.2.1 with | some a, some b => (Fa.exm a b q.2.2).ok K | _, _ => false) &&
  (R.errs.all fun e => R.tb.xfs.all fun f => match R.tb.nms[f]? with | some m => (Fa.noat e.cls m).ok K | none => false) &&
  (R.tb.blt.all fun x => (Fa.free x).ok K) && (Fa.free "super").ok K && (R.owns.all fun c => match R.clss[c]? with | some q => OwnC.bad K (ga K q.1) | none => false) &&
  (R.eqs.all fun q => match R.clss[q.1]? with | some c => (Fa.meth c.1 "__eq__").ok K | none => false)
def Prog.exx (R : Prog) (K : Frag) : Bool := (R.tb.xps.all fun q => (Fa.glo q.1).ok K) && (R.plx.all fun x => plxB K (ga K x) && excB K (ga K x) && (R.tb.xfs.all fun f => match R.tb.nms[f]? with | some m => (Fa.noat x m).ok K | none => false)) &&
  (R.tb.xts.isEmpty || R.errs.all fun e => excB K (ga K e.cls)) && (R.xts.all fun q => q.ok K) && (R.xiss.all fun q => match R.xcl q.1, R.xts[q.2.1]? with
    | some a, some t => (match kitOne K (.ref (ga K a)) (t.v K) with | some b => b == q.2.2 | none => false)
    | _, _ => false)
def Prog.ex (R : Prog) (K : Frag) : Bool := R.ex0 K && R.exx K
def scB (N ps : List Str) (sc : Scope) : Bool := (match sc.kind with | .function => true | _ => false) && !sc.isCoroutine && !sc.isGenerator && decide N.Nodup && decide (N.take ps.length = ps) && (ps.all fun x => match sc.names.lookup x with | some .local => true | some .cell => true | _ => false) &&
  (sc.names.all fun y => match y.2 with | .free => false | _ => true)
theorem scB_ok {N ps : List Str} {sc : Scope} (h : scB N ps sc = true) : FnScope N ps sc := by
  unfold scB at h
  simp only [Bool.and_eq_true, decide_eq_true_eq, Bool.not_eq_true', List.all_eq_true] at h
  obtain ⟨⟨⟨⟨⟨⟨h1, h2⟩, h3⟩, h4⟩, h5⟩, h6⟩, h7⟩ := h
  refine ⟨?_, h2, h3, h4, h5, fun x hx => ?_, fun y hy e => ?_⟩
  · split at h1
    · assumption
    · cases h1
  · have := h6 x hx
    split at this
    · exact .inl (by assumption)
    · exact .inr (by assumption)
    · cases this
  · have := h7 y hy
    rw [e] at this
    cases this
/-- what its text must say -/
def Prog.txt0 (R : Prog) : Bool :=
  (R.defs.all fun i => scB i.N i.ps i.d.scope && trSs (defTC R.tb i.N i.d.scope) i.ir i.d.body && i.d.dfl.isEmpty) && (R.errs.all fun e => e.txt R.prog && (e.ns.all fun n => decide (n ∈ R.tb.nms))) &&
  (R.tb.fns.all fun q => match R.defs[q.2]? with | some i => decide (i.d.at_ = (q.1, none)) | none => false) &&
  (R.tb.cls.all fun q => match R.clss[q.2]? with | some c => decide (c.1 = q.1) | none => false) &&
  (R.clss.all fun c => match R.defs[c.2]? with | some i => decide (i.d.at_ = (c.1, some ("__init__" : Str))) | none => false) &&
  (R.tb.xcs.all fun q => match R.errs[q.2]? with | some e => decide (e.cls = q.1) | none => false) &&
  (R.meths.all fun q => match R.clss[q.1]?, R.tb.nms[q.2.1]?, R.defs[q.2.2]? with | some c, some m, some i => decide (i.d.at_ = (c.1, some m)) | _, _, _ => false) &&
  (R.fnv.all fun f => decide (f < R.defs.length)) &&
  (R.tb.gls.all fun q => match R.cts[q.2]? with | some c => decide (c.1 = q.1) | none => false) &&
  (R.cts.all fun q => match q.2 with | .fn f => (match R.defs[f]? with | some i => decide (i.d.at_ = (q.1, none)) | none => false) | _ => true) &&
  decide R.tb.nms.Nodup && (R.tb.nms.all fun x => decide (x.cps.size < 100)) && (R.owns.all fun c => decide (c < R.clss.length)) &&
  (R.eqs.all fun q => R.owns.contains q.1 && (match R.clss[q.1]?, R.defs[q.2]? with | some c, some i => decide (i.d.at_ = (c.1, some ("__eq__" : Str))) | _, _ => false))
def Prog.txx (R : Prog) : Bool := (R.tb.xps.all fun q => decide (R.errs.length ≤ q.2) && decide (R.plx[q.2 - R.errs.length]? = some q.1)) && (R.tb.xts.all fun q => match R.xts[q.2]? with | some t => decide (t.nm = q.1) | none => false) &&
  (R.tb.xks.all fun q => match R.errs[q.1]? with | some e => decide (q.2.map (nmOf R.tb.nms) = e.ns) || decide (q.2.map (nmOf R.tb.nms) = e.ns.reverse) | none => false)
def Prog.txt (R : Prog) : Bool := R.txt0 && R.txx
end Iv

set_option Elab.async false
set_option linter.all false
set_option maxRecDepth 100000
set_option maxHeartbeats 4000000
/-! IvU: a program whose text is checked does what the run says. -/
namespace Iv
open PySem PySem.Spec L2 PySem.W He
open PyProof.Rows hiding St
theorem nmOf_inj {nms : List Str} (hn : nms.Nodup) (hs : ∀ x ∈ nms, x.cps.size < 100) : ∀ a b, nmOf nms a = nmOf nms b → a = b := fun a b h => by
  unfold nmOf at h
  cases ea : nms[a]? with
  | some x =>
    have hx := hs x (List.mem_of_getElem? ea)
    cases eb : nms[b]? with
    | some y =>
      rw [ea, eb] at h
      have h' : x = y := h
      subst h'
      exact L2.nodup_ix hn ea eb
    | none =>
      rw [ea, eb] at h
      have h' : x = ⟨(List.replicate (b + 100) 33).toArray⟩ := h
      rw [h'] at hx
      simp at hx
      omega
  | none =>
    cases eb : nms[b]? with
    | some y =>
      have hy := hs y (List.mem_of_getElem? eb)
      rw [ea, eb] at h
      have h' : ⟨(List.replicate (a + 100) 33).toArray⟩ = y := h
      rw [← h'] at hy
      simp at hy
      omega
    | none =>
      rw [ea, eb] at h
      have h' : (⟨(List.replicate (a + 100) 33).toArray⟩ : Str) = ⟨(List.replicate (b + 100) 33).toArray⟩ := h
      have h2 : (List.replicate (a + 100) 33).length = (List.replicate (b + 100) 33).length := by
        have h3 : (List.replicate (a + 100) 33).toArray = (List.replicate (b + 100) 33).toArray := by injection h'
        have h4 := congrArg Array.size h3
        simpa using h4
      simpa using h2
/-! ### the error classes' texts -/
def erForm (e : ErD) : Bool := match e.body, e.ns with
  | [.Expr (.Call (.Attribute (.Call (.Name s a0) [] [] a1) i a2) [.Name v a3] [] a4) a5, .Assign [.Attribute (.Name sf b0) f b1] (.Name u b2) b3], [n] =>
    decide (s = ("super" : Str)) && decide (i = ("__init__" : Str)) && decide (v = n) && decide (sf = ("self" : Str)) && decide (f = n) && decide (u = n) && (a2.endLine == a4.line)
  | [.Expr (.Call (.Attribute (.Call (.Name s a0) [] [] a1) i a2) [.Name v a3, .Name v2 a6] [] a4) a5, .Assign [.Attribute (.Name sf b0) f b1] (.Name u b2) b3, .Assign [.Attribute (.Name sf2 c0) f2 c1] (.Name u2 c2) c3], [n, m] =>
    decide (s = ("super" : Str)) && decide (i = ("__init__" : Str)) && decide (v = n) && decide (v2 = m) && decide (sf = ("self" : Str)) && decide (f = n) && decide (u = n) && decide (sf2 = ("self" : Str)) && decide (f2 = m) && decide (u2 = m) && decide (n ≠ m) && (a2.endLine == a4.line)
  | _, _ => false
/-- its arguments are bound in order -/
def erBind (e : ErD) : Prop := match e.ns with
  | [n] => ∀ (s : Shared) (kV doc pm : Value) (an : Option Addr) (cd ct : Value) (cc : Addr) (x v : Value), BindsTo s (ksFn "__init__" e.qual e.params e.body e.scope .none kV doc pm an cd ct cc) ⟨[x, v], []⟩ [("self", x), (n, v)]
  | [n, m] => ∀ (s : Shared) (kV doc pm : Value) (an : Option Addr) (cd ct : Value) (cc : Addr) (x v v2 : Value), BindsTo s (ksFn "__init__" e.qual e.params e.body e.scope .none kV doc pm an cd ct cc) ⟨[x, v, v2], []⟩ [("self", x), (n, v), (m, v2)]
  | _ => True
theorem er_fnX {X : Cx} {K : Frag} {e : ErD} (hK : X.K = K) (hs : X.mg "super" = none) (T : XTxt X.prog K (ga K e.cls) (ma K (ga K e.cls) "__init__") (cellA K e.cls) (codeA K e.cls) e.qual e.scope e.params e.body e.ns) (hf : erForm e = true) (hb : erBind e) : FnX X (ga K e.cls) e.ns := by
  subst hK
  obtain ⟨cls, qual, params, body, scope, ns⟩ := e
  unfold erForm at hf
  dsimp only at hf T
  split at hf
  · simp only [Bool.and_eq_true, decide_eq_true_eq] at hf
    obtain ⟨⟨⟨⟨⟨⟨rfl, rfl⟩, rfl⟩, rfl⟩, rfl⟩, rfl⟩, hl⟩ := hf
    exact fnX1 hs T hl fun s kV doc pm an ct x v => hb s kV doc pm an _ ct _ _ v
  · simp only [Bool.and_eq_true, decide_eq_true_eq] at hf
    obtain ⟨⟨⟨⟨⟨⟨⟨⟨⟨⟨⟨rfl, rfl⟩, rfl⟩, rfl⟩, rfl⟩, rfl⟩, rfl⟩, rfl⟩, rfl⟩, rfl⟩, hne⟩, hl⟩ := hf
    exact fnX2 hs T hne hl fun s kV doc pm an ct x v v2 => hb s kV doc pm an _ ct _ _ v v2
  · cases hf
/-- by keywords -/
def erBindK (e : ErD) : Prop := match e.ns with
  | [n] => ∀ (s : Shared) (kV doc pm : Value) (an : Option Addr) (cd ct : Value) (cc : Addr) (x v : Value), BindsTo s (ksFn "__init__" e.qual e.params e.body e.scope .none kV doc pm an cd ct cc) ⟨[x], [(n, v)]⟩ [("self", x), (n, v)]
  | [n, m] => ∀ (s : Shared) (kV doc pm : Value) (an : Option Addr) (cd ct : Value) (cc : Addr) (x v v2 : Value) (kw : List (Str × Value)), (kw = [(n, v), (m, v2)] ∨ kw = [(m, v2), (n, v)]) →
    BindsTo s (ksFn "__init__" e.qual e.params e.body e.scope .none kV doc pm an cd ct cc) ⟨[x], kw⟩ [("self", x), (n, v), (m, v2)]
  | _ => True
theorem er_fnXk {X : Cx} {K : Frag} {e : ErD} {ks : List Str} (hk : ks = e.ns ∨ ks = e.ns.reverse) (hK : X.K = K) (hs : X.mg "super" = none) (T : XTxt X.prog K (ga K e.cls) (ma K (ga K e.cls) "__init__") (cellA K e.cls) (codeA K e.cls) e.qual e.scope e.params e.body e.ns) (hf : erForm e = true) (hb : erBindK e) : FnXk X (ga K e.cls) ks := by
  subst hK
  obtain ⟨cls, qual, params, body, scope, ns⟩ := e
  unfold erForm at hf
  dsimp only at hf T hk
  split at hf
  · simp only [Bool.and_eq_true, decide_eq_true_eq] at hf
    obtain ⟨⟨⟨⟨⟨⟨rfl, rfl⟩, rfl⟩, rfl⟩, rfl⟩, rfl⟩, hl⟩ := hf
    have e : ks = [_] := hk.elim id id
    subst e
    exact fnXk1 hs T hl fun s kV doc pm an ct x v => hb s kV doc pm an _ ct _ _ v
  · simp only [Bool.and_eq_true, decide_eq_true_eq] at hf
    obtain ⟨⟨⟨⟨⟨⟨⟨⟨⟨⟨⟨rfl, rfl⟩, rfl⟩, rfl⟩, rfl⟩, rfl⟩, rfl⟩, rfl⟩, rfl⟩, rfl⟩, hne⟩, hl⟩ := hf
    exact fnXk2 hk hs T hne hl fun s kV doc pm an ct x v v2 kw z => hb s kV doc pm an _ ct _ _ v v2 kw z
  · cases hf
/-- a def's arguments are bound in order -/
def dfBind (i : DfI) : Prop := ∀ (kV doc pm : Value) (an : Option Addr) (cdv ct : Value) (us : List Value), us.length = i.ps.length → bindArgs (fnOf i.d.name i.d.qual i.d.params i.d.body i.d.scope .none kV doc pm an cdv ct) ⟨us, []⟩ = pure (i.ps.zip us)
def allP {α : Type} (P : α → Prop) : List α → Prop
  | [] => True
  | a :: r => P a ∧ allP P r
theorem allP_at {α : Type} {P : α → Prop} : ∀ {l : List α} {i : Nat} {a : α}, allP P l → l[i]? = some a → P a
  | [], _, _, _, h => by simp at h
  | b :: r, 0, a, h, e => by
    have : b = a := by simpa using e
    rw [← this]; exact h.1
  | b :: r, i + 1, a, h, e => allP_at (i := i) h.2 (by simpa using e)
section
variable {R : Prog} {K : Frag} {w : World} {mg : Str → Option Value} {base h : Heap}
theorem lookup_all {α : Type} {l : List (Str × α)} {x : Str} {a : α} {f : Str × α → Bool} (hl : l.lookup x = some a) (h : l.all f = true) : f (x, a) = true := by
  induction l with
  | nil => cases hl
  | cons q r ih =>
    obtain ⟨y, b⟩ := q
    rw [List.all_cons, Bool.and_eq_true] at h
    rw [List.lookup_cons] at hl
    cases e : (x == y) with
    | true =>
      rw [e] at hl
      cases hl
      have : x = y := by simpa using e
      rw [this]; exact h.1
    | false =>
      rw [e] at hl
      exact ih hl h.2
theorem find_all {α : Type} {l : List α} {f g : α → Bool} {a : α} (hf : l.find? g = some a) (h : l.all f = true) : f a = true ∧ g a = true :=
  ⟨List.all_eq_true.mp h a (List.mem_of_find?_eq_some hf), by simpa using List.find?_some hf⟩
/-- all that is told of the program -/
structure Told (R : Prog) (K : Frag) (h : Heap) (mg : Str → Option Value) : Prop where
  inh : K.In h
  ns : h.Ns mainGlobals mg
  says : SaysI R.prog (R.defs.map (·.d)) R.errs R.ex K
  txt : R.txt = true
  form : (R.errs.all erForm) = true
  bind : allP dfBind R.defs
  bindE : allP erBind R.errs
  bindK : R.tb.xks = [] ∨ allP erBindK R.errs
structure TxtP (R : Prog) : Prop where
  defs : (R.defs.all fun i => scB i.N i.ps i.d.scope && trSs (defTC R.tb i.N i.d.scope) i.ir i.d.body && i.d.dfl.isEmpty) = true
  errs : (R.errs.all fun e => e.txt R.prog && (e.ns.all fun n => decide (n ∈ R.tb.nms))) = true
  fns : (R.tb.fns.all fun q => match R.defs[q.2]? with | some i => decide (i.d.at_ = (q.1, none)) | none => false) = true
  cls : (R.tb.cls.all fun q => match R.clss[q.2]? with | some c => decide (c.1 = q.1) | none => false) = true
  clss : (R.clss.all fun c => match R.defs[c.2]? with | some i => decide (i.d.at_ = (c.1, some ("__init__" : Str))) | none => false) = true
  xcs : (R.tb.xcs.all fun q => match R.errs[q.2]? with | some e => decide (e.cls = q.1) | none => false) = true
  meths : (R.meths.all fun q => match R.clss[q.1]?, R.tb.nms[q.2.1]?, R.defs[q.2.2]? with | some c, some m, some i => decide (i.d.at_ = (c.1, some m)) | _, _, _ => false) = true
  fnv : (R.fnv.all fun f => decide (f < R.defs.length)) = true
  gls : (R.tb.gls.all fun q => match R.cts[q.2]? with | some c => decide (c.1 = q.1) | none => false) = true
  cts : (R.cts.all fun q => match q.2 with | .fn f => (match R.defs[f]? with | some i => decide (i.d.at_ = (q.1, none)) | none => false) | _ => true) = true
  nd : R.tb.nms.Nodup
  sz : ∀ x ∈ R.tb.nms, x.cps.size < 100
  owns : (R.owns.all fun c => decide (c < R.clss.length)) = true
  eqs : (R.eqs.all fun q => R.owns.contains q.1 && (match R.clss[q.1]?, R.defs[q.2]? with | some c, some i => decide (i.d.at_ = (c.1, some ("__eq__" : Str))) | _, _ => false)) = true
theorem txt_parts (h : R.txt0 = true) : TxtP R := by
  unfold Prog.txt0 at h
  rw [Bool.and_eq_true, Bool.and_eq_true] at h
  obtain ⟨⟨h, h13⟩, h14⟩ := h
  simp only [Bool.and_eq_true] at h
  obtain ⟨⟨⟨⟨⟨⟨⟨⟨⟨⟨⟨h1, h2⟩, h3⟩, h4⟩, h5⟩, h6⟩, h7⟩, h8⟩, h9⟩, h10⟩, h11⟩, h12⟩ := h
  exact ⟨h1, h2, h3, h4, h5, h6, h7, h8, h9, h10, of_decide_eq_true h11, fun x hx => of_decide_eq_true (List.all_eq_true.mp h12 x hx), h13, h14⟩
structure ExP (R : Prog) (K : Frag) : Prop where
  fns : (R.tb.fns.all fun q => (Fa.glo q.1).ok K) = true
  cls : (R.tb.cls.all fun q => (Fa.glo q.1).ok K) = true
  xcs : (R.tb.xcs.all fun q => (Fa.glo q.1).ok K) = true
  clss : (R.clss.all fun q => (Fa.cls q.1).ok K && (Fa.mkr q.1).ok K) = true
  meths : (R.meths.all fun q => match R.clss[q.1]?, R.tb.nms[q.2.1]? with | some c, some m => (Fa.meth c.1 m).ok K | _, _ => false) = true
  ats : (R.ats.all fun q => match R.clss[q.1]?, R.tb.nms[q.2]? with | some c, some m => (Fa.noat c.1 m).ok K | _, _ => false) = true
  cts : (R.cts.all fun q => q.2.ok K q.1) = true
  sups : (R.sups.all fun q => match R.xcl q.1, R.xcl q.2.1 with | some a, some b => (Fa.exm a b q.2.2).ok K | _, _ => false) = true
  xno : (R.errs.all fun e => R.tb.xfs.all fun f => match R.tb.nms[f]? with | some m => (Fa.noat e.cls m).ok K | none => false) = true
  blt : (R.tb.blt.all fun x => (Fa.free x).ok K) = true
  sup : (Fa.free "super").ok K = true
  owns : (R.owns.all fun c => match R.clss[c]? with | some q => OwnC.bad K (ga K q.1) | none => false) = true
  eqs : (R.eqs.all fun q => match R.clss[q.1]? with | some c => (Fa.meth c.1 "__eq__").ok K | none => false) = true
theorem ex_parts (h : R.ex0 K = true) : ExP R K := by
  unfold Prog.ex0 at h
  rw [Bool.and_eq_true, Bool.and_eq_true] at h
  obtain ⟨⟨h, h12⟩, h13⟩ := h
  simp only [Bool.and_eq_true] at h
  obtain ⟨⟨⟨⟨⟨⟨⟨⟨⟨⟨h1, h2⟩, h3⟩, h4⟩, h5⟩, h6⟩, h7⟩, h8⟩, h9⟩, h10⟩, h11⟩ := h
  exact ⟨h1, h2, h3, h4 |> fun z => by simpa only [Bool.and_eq_true] using z, h5, h6, h7, h8, h9, h10, h11, h12, h13⟩
structure TxxP (R : Prog) : Prop where
  xps : ∀ x c, R.tb.xps.lookup x = some c → R.errs.length ≤ c ∧ R.plx[c - R.errs.length]? = some x
  xts : ∀ y t, R.tb.xts.lookup y = some t → ∃ q, R.xts[t]? = some q ∧ q.nm = y
  xks : ∀ c ns, (c, ns) ∈ R.tb.xks → ∃ e, R.errs[c]? = some e ∧ (ns.map (nmOf R.tb.nms) = e.ns ∨ ns.map (nmOf R.tb.nms) = e.ns.reverse)
theorem txx_parts (h : R.txx = true) : TxxP R := by
  unfold Prog.txx at h
  obtain ⟨h, h3⟩ := Bool.and_eq_true_iff.mp h
  obtain ⟨h1, h2⟩ := Bool.and_eq_true_iff.mp h
  refine ⟨fun x c hc => ?_, fun y t hy => ?_, fun c ns hm => ?_⟩
  rotate_left 2
  · have := List.all_eq_true.mp h3 _ hm
    dsimp only at this
    split at this
    · rename_i e he
      simp only [Bool.or_eq_true, decide_eq_true_eq] at this
      exact ⟨e, he, this⟩
    · cases this
  · have := lookup_all hc h1
    simp only [Bool.and_eq_true, decide_eq_true_eq] at this
    exact this
  · have := lookup_all hy h2
    dsimp only at this
    split at this
    · rename_i q hq
      exact ⟨q, hq, of_decide_eq_true this⟩
    · cases this
structure ExxP (R : Prog) (K : Frag) : Prop where
  xps : (R.tb.xps.all fun q => (Fa.glo q.1).ok K) = true
  plx : ∀ x ∈ R.plx, PlX K (ga K x) ∧ ExcC K (ga K x) ∧ ∀ f ∈ R.tb.xfs, (match R.tb.nms[f]? with | some m => (Fa.noat x m).ok K | none => false) = true
  exs : R.tb.xts = [] ∨ ∀ e ∈ R.errs, ExcC K (ga K e.cls)
  xts : ∀ q ∈ R.xts, q.ok K = true
  xiss : (R.xiss.all fun q => match R.xcl q.1, R.xts[q.2.1]? with
    | some a, some t => (match kitOne K (.ref (ga K a)) (t.v K) with | some b => b == q.2.2 | none => false)
    | _, _ => false) = true
theorem exx_parts (h : R.exx K = true) : ExxP R K := by
  unfold Prog.exx at h
  obtain ⟨h, h5⟩ := Bool.and_eq_true_iff.mp h
  obtain ⟨h, h4⟩ := Bool.and_eq_true_iff.mp h
  obtain ⟨h, h3⟩ := Bool.and_eq_true_iff.mp h
  obtain ⟨h1, h2⟩ := Bool.and_eq_true_iff.mp h
  refine ⟨h1, fun x hx => ?_, ?_, fun q hq => List.all_eq_true.mp h4 q hq, h5⟩
  · have := List.all_eq_true.mp h2 x hx
    simp only [Bool.and_eq_true] at this
    exact ⟨PlX.of this.1.1, ExcC.of this.1.2, fun f hf => List.all_eq_true.mp this.2 f hf⟩
  · rcases Bool.or_eq_true_iff.mp h3 with h | h
    · exact .inl (List.isEmpty_iff.mp h)
    · exact .inr fun e he => ExcC.of (List.all_eq_true.mp h e he)
theorem boot_ve : bootBuiltins "ValueError" = some (.type "ValueError") := by decide +kernel
theorem boot_le : bootBuiltins "LookupError" = some (.type "LookupError") := by decide +kernel
theorem boot_re : bootBuiltins "RuntimeError" = some (.type "RuntimeError") := by decide +kernel
theorem nm_at {nms : List Str} {i : Nat} {x : Str} (h : nms[i]? = some x) : nmOf nms i = x := by unfold nmOf; rw [h]
theorem nm_idx {nms : List Str} {x : Str} (h : x ∈ nms) : nmOf nms (nms.idxOf x) = x := by
  have hl := List.idxOf_lt_length_iff.mpr h
  exact nm_at (by rw [List.getElem?_eq_getElem hl]; simp)
theorem xf_map (P : TxtP R) {c : Nat} {e : ErD} (he : R.errs[c]? = some e) : (R.xf c).map (nmOf R.tb.nms) = e.ns := by
  have h1 := List.all_eq_true.mp P.errs e (List.mem_of_getElem? he)
  simp only [Bool.and_eq_true, List.all_eq_true, decide_eq_true_eq] at h1
  unfold Prog.xf
  rw [he]
  show (e.ns.map fun n => R.tb.nms.idxOf n).map (nmOf R.tb.nms) = e.ns
  rw [List.map_map]
  have : ∀ l : List Str, (∀ n ∈ l, n ∈ R.tb.nms) → l.map (nmOf R.tb.nms ∘ fun n => R.tb.nms.idxOf n) = l := fun l hl => by
    induction l with
    | nil => rfl
    | cons a r ih =>
      rw [List.map_cons, ih fun n hn => hl n (List.mem_cons_of_mem _ hn)]
      show nmOf R.tb.nms (R.tb.nms.idxOf a) :: r = a :: r
      rw [nm_idx (hl a List.mem_cons_self)]
  exact this _ h1.2
theorem def_told (Tl : Told R K h mg) {w : World} {base : Heap} {f : Nat} {i : DfI} (hi : R.defs[f]? = some i) : DefOk R.tb ⟨R.prog, w, K, mg, base⟩ (R.T K) f i.fd := by
  have P := txt_parts (Bool.and_eq_true_iff.mp Tl.txt).1
  have h1 := List.all_eq_true.mp P.defs i (List.mem_of_getElem? hi)
  simp only [Bool.and_eq_true] at h1
  obtain ⟨⟨h2, h3⟩, h4⟩ := h1
  have h4' : i.d.dfl = [] := List.isEmpty_iff.mp h4
  obtain ⟨fd, F⟩ := Tl.says.def_ (i := f) (d := i.d) (by rw [List.getElem?_map, hi]; rfl)
  have hdv : i.d.dvs K = [] := by unfold DefD.dvs; rw [h4']; rfl
  rw [hdv] at F
  have hfa : (R.T K).fa f = fAd K i.d.at_ := by show (match R.defs[f]? with | some d => fAd K d.d.at_ | none => 0) = _; rw [hi]
  refine ⟨_, _, _, _, _, _, fd, i.N, i.ps, by rw [hfa]; exact F, scB_ok h2, F.bindsN fun kV doc pm an cdv ct us hl => allP_at Tl.bind hi kV doc pm an cdv ct us hl, h3, rfl, rfl⟩
theorem fns_some {f : Nat} {i : DfI} (hi : R.defs[f]? = some i) : R.pg.fns f = some i.fd := by
  show (R.defs[f]?).map DfI.fd = _
  rw [hi]; rfl
/-- at level 0 nothing is promised -/
theorem stuck_ok {tb : Tb} {Z : Core} {T : Tab} {f : Nat} {d : Fd} (D0 : DefOk tb Z T f d) (X : Cx) (hX : coreOf X = Z) (B : Base) : FnF X T 0 f [] (spF B fun _ _ => .stuck) := by
  subst hX
  obtain ⟨x, qual, params, body, scope, kws, fd, N, ps, F, S, hb, ht, hnp, hns⟩ := D0.ex
  exact ⟨fd, ps, [], ⟨fun vs H Q E h => by obtain ⟨ω, st, ds, S1, r, p⟩ := h; exact p.elim, fun A outer s H args us vs Q E hr he hb' hv hs => by obtain ⟨ω, st, ds, S1, r, p⟩ := hs; exact p.elim⟩, F.kp, hb, .nil⟩
theorem stuckM_ok {tb : Tb} {Z : Core} {T : Tab} {c f : Nat} {d : Fd} (D0 : DefOk tb Z T f d) (M : Mk Z.K (T.ca c) (T.fa f)) (X : Cx) (hX : coreOf X = Z) (B : Base) : FnM X T 0 c [] (spI B c fun _ _ => .stuck) := by
  subst hX
  obtain ⟨x, qual, params, body, scope, kws, fd, N, ps, F, S, hb, ht, hnp, hns⟩ := D0.ex
  exact ⟨T.fa f, fd, ps, [], M, ⟨fun vs H Q E h => by obtain ⟨ω, st, ds, x, dx, ws, H0, _, _, _, _, _, _, _, p⟩ := h; exact p.elim, fun A outer s H args us vs Q E hr he hb' hv hs => by obtain ⟨ω, st, ds, x, dx, ws, H0, _, _, _, _, _, _, _, p⟩ := hs; exact p.elim⟩, hb, .nil⟩
theorem fa_glob (P : TxtP R) {x : Str} {f : Nat} (hf : R.tb.fns.lookup x = some f) : (R.T K).fa f = ga K x ∧ ∃ i, R.defs[f]? = some i := by
  have h1 := lookup_all hf P.fns
  dsimp only at h1
  split at h1
  · rename_i i hi
    have e := of_decide_eq_true h1
    refine ⟨?_, i, hi⟩
    show (match R.defs[f]? with | some d => fAd K d.d.at_ | none => 0) = _
    rw [hi]
    show fAd K i.d.at_ = _
    rw [e]; rfl
  · cases h1
theorem ca_at {c : Nat} {q : Str × Nat} (hc : R.clss[c]? = some q) : (R.T K).ca c = ga K q.1 := by
  show (match R.clss[c]? with | some q => ga K q.1 | none => 0) = _
  rw [hc]
theorem xa_cl {c : Nat} {x : Str} (hc : R.xcl c = some x) : (R.T K).xa c = ga K x := by
  show (match R.xcl c with | some q => ga K q | none => 0) = _
  rw [hc]
theorem xa_at {c : Nat} {e : ErD} (hc : R.errs[c]? = some e) : (R.T K).xa c = ga K e.cls := by
  exact xa_cl (by unfold Prog.xcl; rw [hc])
/-- THE RULE for a program -/
theorem gf_told (Tl : Told R K h mg) (w : World) (base : Heap) : ∀ m, GF R.tb ⟨R.prog, w, K, mg, base⟩ (R.T K) R.pt (run R.pg m) R.sup R.xf (2 * m) := by
  have P := txt_parts (Bool.and_eq_true_iff.mp Tl.txt).1
  have E := ex_parts (Bool.and_eq_true_iff.mp Tl.says.bools.2.2).1
  have PX := txx_parts (Bool.and_eq_true_iff.mp Tl.txt).2
  have EX := exx_parts (Bool.and_eq_true_iff.mp Tl.says.bools.2.2).2
  have inj := nmOf_inj P.nd P.sz
  have exErr : ∀ (c : Nat) (e : ErD), R.errs[c]? = some e → XTxt R.prog K (ga K e.cls) (ma K (ga K e.cls) "__init__") (cellA K e.cls) (codeA K e.cls) e.qual e.scope e.params e.body e.ns ∧ XfC K (ga K e.cls) := fun c e he => by
    have h1 := List.all_eq_true.mp P.errs e (List.mem_of_getElem? he)
    simp only [Bool.and_eq_true] at h1
    exact Tl.says.err he h1.1
  have clsAt : ∀ (c : Nat) (q : Str × Nat), R.clss[c]? = some q → Cls K (ga K q.1) ∧ ∃ i, R.defs[q.2]? = some i ∧ Mk K ((R.T K).ca c) ((R.T K).fa q.2) := fun c q hq => by
    have h1 := List.all_eq_true.mp E.clss q (List.mem_of_getElem? hq)
    simp only [Bool.and_eq_true] at h1
    have h2 := List.all_eq_true.mp P.clss q (List.mem_of_getElem? hq)
    split at h2
    · rename_i i hi
      have e := of_decide_eq_true h2
      refine ⟨cls_ok h1.1, i, hi, ?_⟩
      rw [ca_at hq]
      have hfa : (R.T K).fa q.2 = ma K (ga K q.1) "__init__" := by
        show (match R.defs[q.2]? with | some d => fAd K d.d.at_ | none => 0) = _
        rw [hi]
        show fAd K i.d.at_ = _
        rw [e]; rfl
      rw [hfa]
      exact mkr_ok h1.2
    · cases h2
  have methAt : ∀ (c m f : Nat), R.pt.meth c m = some f → Cls K ((R.T K).ca c) ∧ Meth K ((R.T K).ca c) ((R.T K).nm m) ((R.T K).fa f) ∧ ∃ i, R.defs[f]? = some i := fun c m f hm => by
    obtain ⟨q, hq, e⟩ := Option.map_eq_some_iff.mp hm
    obtain ⟨h1, h2⟩ := find_all hq E.meths
    obtain ⟨h3, _⟩ := find_all hq P.meths
    simp only [Bool.and_eq_true, beq_iff_eq] at h2
    obtain ⟨rfl, rfl⟩ := h2
    subst e
    split at h1
    · rename_i c2 m2 hc hm2
      rw [hc, hm2] at h3
      split at h3
      · rename_i c3 m3 i e1 e2 hi
        cases e1; cases e2
        have e := of_decide_eq_true h3
        have hfa : (R.T K).fa q.2.2 = ma K (ga K c2.1) m2 := by
          show (match R.defs[q.2.2]? with | some d => fAd K d.d.at_ | none => 0) = _
          rw [hi]
          show fAd K i.d.at_ = _
          rw [e]; rfl
        have hnm : (R.T K).nm q.2.1 = m2 := nm_at hm2
        rw [ca_at hc, hnm, hfa]
        exact ⟨(clsAt _ _ hc).1, meth_ok h1, i, hi⟩
      · cases h3
    · cases h1
  have atAt : ∀ (c m : Nat), R.pt.isAt c m = true → Cls K ((R.T K).ca c) ∧ NoAttr K ((R.T K).ca c) ((R.T K).nm m) := fun c m hm => by
    have hin : (c, m) ∈ R.ats := by simpa [Prog.pt] using hm
    have h1 := List.all_eq_true.mp E.ats _ hin
    dsimp only at h1
    split at h1
    · rename_i c2 m2 hc hm2
      have hnm : (R.T K).nm m = m2 := nm_at hm2
      rw [ca_at hc, hnm]
      exact ⟨(clsAt _ _ hc).1, noat_ok h1⟩
    · cases h1
  have fnAt : ∀ (f : Nat), R.pt.isFn f = true → ∃ i, R.defs[f]? = some i := fun f hf => by
    have hin : f ∈ R.fnv := by simpa [Prog.pt] using hf
    have h1 := of_decide_eq_true (List.all_eq_true.mp P.fnv f hin)
    exact ⟨R.defs[f], by simp [h1]⟩
  have supAt : ∀ (c' c : Nat) (b : Bool), R.sup c' c = some b → exmOne K (.ref ((R.T K).xa c')) (.ref ((R.T K).xa c)) = some b ∧ ∃ x, R.xcl c' = some x := fun c' c b hb => by
    obtain ⟨q, hq, e⟩ := Option.map_eq_some_iff.mp hb
    obtain ⟨h1, h2⟩ := find_all hq E.sups
    simp only [Bool.and_eq_true, beq_iff_eq] at h2
    obtain ⟨rfl, rfl⟩ := h2
    subst e
    split at h1
    · rename_i a b ha hb
      rw [xa_cl ha, xa_cl hb]
      exact ⟨exm_ok h1, a, ha⟩
    · cases h1
  have clAt : ∀ (c : Nat) (x : Str), R.xcl c = some x → (∃ e, R.errs[c]? = some e ∧ e.cls = x) ∨ x ∈ R.plx := fun c x hx => by
    unfold Prog.xcl at hx
    split at hx
    · rename_i e he
      cases hx
      exact .inl ⟨e, he, rfl⟩
    · exact .inr (List.mem_of_getElem? hx)
  have ownAt : ∀ (c : Nat), R.pt.own c = true → OwnC K ((R.T K).ca c) := fun c hc => by
    have hin : c ∈ R.owns := by simpa [Prog.pt] using hc
    have h1 := List.all_eq_true.mp E.owns _ hin
    split at h1
    · rename_i q hq
      rw [ca_at hq]
      exact OwnC.of h1
    · cases h1
  have eqAt : ∀ (c f : Nat), R.pt.eqf c = some f → OwnC K ((R.T K).ca c) ∧ Meth K ((R.T K).ca c) "__eq__" ((R.T K).fa f) ∧ ∃ i, R.defs[f]? = some i := fun c f hm => by
    obtain ⟨q, hq, e⟩ := Option.map_eq_some_iff.mp hm
    obtain ⟨h1, h2⟩ := find_all hq E.eqs
    obtain ⟨h3, _⟩ := find_all hq P.eqs
    simp only [beq_iff_eq] at h2
    subst h2
    subst e
    rw [Bool.and_eq_true] at h3
    obtain ⟨h4, h3⟩ := h3
    split at h1
    · rename_i c2 hc
      rw [hc] at h3
      split at h3
      · rename_i c3 i e1 hi
        cases e1
        have e := of_decide_eq_true h3
        have hfa : (R.T K).fa q.2 = ma K (ga K c2.1) "__eq__" := by
          show (match R.defs[q.2]? with | some d => fAd K d.d.at_ | none => 0) = _
          rw [hi]
          show fAd K i.d.at_ = _
          rw [e]; rfl
        refine ⟨ownAt _ h4, ?_, i, hi⟩
        rw [ca_at hc, hfa]
        exact meth_ok h1
      · cases h3
    · cases h1
  let FFP : Nat → Prop := fun m => ∀ (f : Nat) (i : DfI), R.defs[f]? = some i → ∀ X, coreOf X = ⟨R.prog, w, K, mg, base⟩ → FnF X (R.T K) (2 * m) f [] (spF ⟨K, R.T K⟩ ((run R.pg m).call f))
  let MMP : Nat → Prop := fun m => ∀ (c : Nat) (q : Str × Nat), R.clss[c]? = some q → ∀ X, coreOf X = ⟨R.prog, w, K, mg, base⟩ → FnM X (R.T K) (2 * m) c [] (spI ⟨K, R.T K⟩ c ((run R.pg m).make c))
  have mk : ∀ m, FFP m → MMP m → GF R.tb ⟨R.prog, w, K, mg, base⟩ (R.T K) R.pt (run R.pg m) R.sup R.xf (2 * m) := fun m FF MM => {
    inj := inj
    nm := fun i x hx => nm_at hx
    fns := fun x f hf => by
      obtain ⟨e1, i, hi⟩ := fa_glob (K := K) P hf
      refine ⟨?_, FF f i hi⟩
      rw [e1]
      exact glo_ok Tl.inh Tl.ns (lookup_all hf E.fns)
    cls := fun x c hc => by
      have h1 := lookup_all hc P.cls
      dsimp only at h1
      split at h1
      · rename_i q hq
        have e := of_decide_eq_true h1
        refine ⟨?_, MM c q hq⟩
        rw [ca_at hq, e]
        exact glo_ok Tl.inh Tl.ns (lookup_all hc E.cls)
      · cases h1
    meth := fun c m f hm => by
      obtain ⟨h1, h2, i, hi⟩ := methAt c m f hm
      exact ⟨h1, h2, FF f i hi⟩
    isFn := fun f hf => by
      obtain ⟨i, hi⟩ := fnAt f hf
      exact FF f i hi
    isAt := atAt
    own := ownAt
    eqf := fun c f hm => by
      obtain ⟨h1, h2, i, hi⟩ := eqAt c f hm
      exact ⟨h1, h2, FF f i hi⟩
    xcs := fun x c hc => by
      have h1 := lookup_all hc P.xcs
      dsimp only at h1
      split at h1
      · rename_i e he
        have e2 := of_decide_eq_true h1
        rw [xa_at he]
        refine ⟨?_, fun X hX => ?_⟩
        · rw [e2]
          exact glo_ok Tl.inh Tl.ns (lookup_all hc E.xcs)
        · have hns : ((R.T K).xf c).map (R.T K).nm = e.ns := xf_map P he
          rw [hns]
          have hp : X.prog = R.prog := congrArg Core.prog hX
          have hm' : X.mg = mg := congrArg Core.mg hX
          refine er_fnX (congrArg Core.K hX) ?_ ?_ (List.all_eq_true.mp Tl.form e (List.mem_of_getElem? he)) (allP_at Tl.bindE he)
          · rw [hm']; exact free_ok Tl.inh Tl.ns E.sup
          · rw [hp]; exact (exErr c e he).1
      · cases h1
    xfc := fun c' c hs => by
      obtain ⟨_, x, hx⟩ := supAt c' c true hs
      rw [xa_cl hx]
      rcases clAt c' x hx with ⟨e, he, rfl⟩ | h
      · exact (exErr c' e he).2
      · have Z := (EX.plx x h).2.1
        exact ⟨Z.hg, Z.hk, Z.hs, Z.hd⟩
    xno := fun c' c f hs hf => by
      obtain ⟨_, x, hx⟩ := supAt c' c true hs
      rw [xa_cl hx]
      have h1 : (match R.tb.nms[f]? with | some m => (Fa.noat x m).ok K | none => false) = true := by
        rcases clAt c' x hx with ⟨e, he, rfl⟩ | h
        · exact List.all_eq_true.mp (List.all_eq_true.mp E.xno e (List.mem_of_getElem? he)) f hf
        · exact (EX.plx x h).2.2 f hf
      split at h1
      · rename_i m hm
        have hnm : (R.T K).nm f = m := nm_at hm
        rw [hnm]
        exact noat_ok h1
      · cases h1
    xfe := fun c => rfl
    xps := fun x c hc => by
      obtain ⟨h1, h2⟩ := PX.xps x c hc
      have hn : R.errs[c]? = none := List.getElem?_eq_none h1
      have hcl : R.xcl c = some x := by unfold Prog.xcl; rw [hn]; exact h2
      rw [xa_cl hcl]
      refine ⟨glo_ok Tl.inh Tl.ns (lookup_all hc EX.xps), ?_, ?_, (EX.plx x (List.mem_of_getElem? h2)).1⟩
      · show (match R.errs[c]? with | some _ => false | none => (R.plx[c - R.errs.length]?).isSome) = true
        rw [hn, h2]; rfl
      · show (match R.errs[c]? with | some e => e.ns.map fun n => R.tb.nms.idxOf n | none => []) = []
        rw [hn]
    xex := fun c' c b hs hne => by
      obtain ⟨_, x, hx⟩ := supAt c' c b hs
      rw [xa_cl hx]
      rcases clAt c' x hx with ⟨e, he, rfl⟩ | h
      · rcases EX.exs with h0 | h0
        · exact (hne h0).elim
        · exact h0 e (List.mem_of_getElem? he)
      · exact (EX.plx x h).2.1
    xis := fun c t b hb => by
      obtain ⟨q, hq, e⟩ := Option.map_eq_some_iff.mp hb
      obtain ⟨h1, h2⟩ := find_all hq EX.xiss
      simp only [Bool.and_eq_true, beq_iff_eq] at h2
      obtain ⟨rfl, rfl⟩ := h2
      subst e
      split at h1
      · rename_i a t ha ht
        rw [xa_cl ha, show (R.T K).xt q.2.1 = t.v K from by show (match R.xts[q.2.1]? with | some q => q.v K | none => .none) = _; rw [ht]]
        revert h1
        split
        · rename_i b' e'
          intro z
          rw [e', eq_of_beq z]
        · exact fun z => by cases z
      · cases h1
    xks := fun c ns hm => by
      obtain ⟨e, he, hns⟩ := PX.xks c ns hm
      rw [xa_at he]
      refine ⟨(exErr c e he).2, fun f hf => ?_, fun X hX => ?_⟩
      · have h1 := List.all_eq_true.mp (List.all_eq_true.mp E.xno e (List.mem_of_getElem? he)) f hf
        split at h1
        · rename_i m hm
          have hnm : (R.T K).nm f = m := nm_at hm
          rw [hnm]
          exact noat_ok h1
        · cases h1
      · have hp : X.prog = R.prog := congrArg Core.prog hX
        have hm' : X.mg = mg := congrArg Core.mg hX
        rcases Tl.bindK with h0 | h0
        · rw [h0] at hm; cases hm
        · refine er_fnXk hns (congrArg Core.K hX) ?_ ?_ (List.all_eq_true.mp Tl.form e (List.mem_of_getElem? he)) (allP_at h0 he)
          · rw [hm']; exact free_ok Tl.inh Tl.ns E.sup
          · rw [hp]; exact (exErr c e he).1
    xts := fun y t hy => by
      obtain ⟨q, hq, rfl⟩ := PX.xts y t hy
      rw [show (R.T K).xt t = q.v K from by show (match R.xts[t]? with | some q => q.v K | none => .none) = _; rw [hq]]
      have h1 := EX.xts q (List.mem_of_getElem? hq)
      cases q with
      | own x => exact .inl ⟨glo_ok Tl.inh Tl.ns h1, _, rfl⟩
      | ve => exact .inr ⟨free_ok Tl.inh Tl.ns h1, _, rfl, boot_ve, by decide⟩
      | le => exact .inr ⟨free_ok Tl.inh Tl.ns h1, _, rfl, boot_le, by decide⟩
      | re => exact .inr ⟨free_ok Tl.inh Tl.ns h1, _, rfl, boot_re, by decide⟩
    sup := fun c' c b hb => (supAt c' c b hb).1
    gls := fun x k hk => by
      have h1 := lookup_all hk P.gls
      dsimp only at h1
      split at h1
      · rename_i c hc
        have e := of_decide_eq_true h1
        have h2 := List.all_eq_true.mp E.cts c (List.mem_of_getElem? hc)
        have h3 := List.all_eq_true.mp P.cts c (List.mem_of_getElem? hc)
        have hgl : R.pt.gl k = some c.2.d := by
          show (R.cts[k]?).map (fun q => q.2.d) = _
          rw [hc]; rfl
        obtain ⟨cx, ct⟩ := c
        have e' : cx = x := e
        subst e'
        cases ct with
        | int j =>
          obtain ⟨t, ht⟩ := He.int_ok Tl.inh Tl.ns h2
          exact ⟨.int j, _, .int j, ht, ⟨t, rfl⟩, hgl, fun _ _ => .int j⟩
        | str z =>
          obtain ⟨t, ht⟩ := He.str_ok Tl.inh Tl.ns h2
          exact ⟨.str z, _, .str z, ht, ⟨t, rfl⟩, hgl, fun _ _ => .str z⟩
        | fn f =>
          have ht := glo_ok Tl.inh Tl.ns h2
          dsimp only at h3
          split at h3
          · rename_i i hi
            have e3 := of_decide_eq_true h3
            have hfa : (R.T K).fa f = ga K cx := by
              show (match R.defs[f]? with | some d => fAd K d.d.at_ | none => 0) = _
              rw [hi]
              show fAd K i.d.at_ = _
              rw [e3]; rfl
            refine ⟨.ref (ga K cx), _, .fn f, ht, rfl, hgl, fun ω H => ?_⟩
            have := RelD.fn (B := ⟨K, R.T K⟩) (ω := ω) (H := H) f
            rw [← hfa]
            exact this
          · cases h3
      · cases h1
    blt := fun x hx => free_ok Tl.inh Tl.ns (List.all_eq_true.mp E.blt x hx) }
  have all : ∀ m, FFP m ∧ MMP m := by
    intro m
    induction m with
    | zero =>
      refine ⟨fun f i hi X hX => stuck_ok (def_told Tl hi) X hX _, fun c q hq X hX => ?_⟩
      obtain ⟨_, i, hi, M⟩ := clsAt c q hq
      exact stuckM_ok (def_told Tl hi) M X hX _
    | succ m ih =>
      have g := mk m ih.1 ih.2
      refine ⟨fun f i hi X hX => def_ok (Q := R.pg) g (fns_some hi) (def_told Tl hi) (fun _ => rfl) X hX, fun c q hq X hX => ?_⟩
      obtain ⟨_, i, hi, M⟩ := clsAt c q hq
      have hcl : R.pg.cls c = some q.2 := by
        show (R.clss[c]?).map (·.2) = _
        rw [hq]; rfl
      exact init_ok (Q := R.pg) g hcl (fns_some hi) (def_told Tl hi) M X hX
  exact fun m => mk m (all m).1 (all m).2
end
end Iv

set_option Elab.async false
set_option linter.all false
set_option maxRecDepth 100000
set_option maxHeartbeats 4000000
/-! IvV: a law. -/
namespace Iv
open PySem PySem.Spec L2 PySem.W He
open PyProof.Rows hiding St
theorem rel_ints {B : Base} {ω : Wd} {H : Hp} : ∀ ns : List Int, RelDs B ω H (ns.map D.int) (ns.map V.int)
  | [] => .nil
  | n :: r => .cons (.int n) (rel_ints r)
/-- the law's call, from outside: nothing is tracked but the script -/
theorem call_o {P : Program} {w : World} {K : PySem.W.Frag} {mg mb : Str → Option Value} {CX : CXT} {k : Nat} {fa a : Addr} {fd : FuncData} {x : Str} {sp : Sp} {s₁ : Shared} {vs : List Value} {ns : List Int}
    (KX : K.In s₁.heap) (hns : s₁.heap.Ns mainGlobals mg) (hb : s₁.heap.Ns builtinsNs mb) (hbb : ∀ x : Str, x ≠ "__name__" → mb x = bootBuiltins x) (hlim : s₁.heap.NoLimit) (hg : s₁.gens = #[])
    (ha : s₁.heap.get? a = some { cls := .type "list", data := .seq vs.toArray }) (hi : IntsAre vs ns) (hl : ns.length ≤ sizeLine) (hr : Rm k callerA)
    (F : ∀ base : Heap, K.In base → base.Ns mainGlobals mg → FnO P w K mg base CX k fa fd [x] sp) (hbind : ∀ (s : Shared) (u : Value), BindsTo s fd ⟨[u], []⟩ [(x, u)])
    (hsp : ∀ H : Hp, Only H → SqL K H a (ns.map V.int) → sp [.ref a] H (fun v _ => v = .bl true) fun _ _ _ => False)
    (hCX : ∀ H e s', CX [] H s₁ (fun _ _ _ => False) e s' → False) :
    codeAny (model P w) callerA (.call (.ref fa) ⟨[.ref a], []⟩) (fun r s' => r = .ok (.ret (.bool true)) ∧ OldK s₁.heap s'.heap ∧ s'.os = s₁.os ∧ AllBare s'.gens) s₁ := by
  have rv := vals_ints hi
  have go : ∀ H : Hp, Only H → SqL K H a (ns.map V.int) → HOk P w H s₁.heap → (∀ b, H b ≠ none → b = a) → (H a ≠ none → K.lookup a = none) →
      codeAny (model P w) callerA (.call (.ref fa) ⟨[.ref a], []⟩) (fun r s' => r = .ok (.ret (.bool true)) ∧ OldK s₁.heap s'.heap ∧ s'.os = s₁.os ∧ AllBare s'.gens) s₁ := by
    intro H hO hS hok only hK
    have out : ∀ {b : Addr}, b ≠ a → H b = none := fun {b} hb => by
      cases q : H b with
      | none => rfl
      | some u => exact absurd (only b (by rw [q]; simp)) hb
    have nsK : ∀ {b : Addr} {m : Str → Option Value}, s₁.heap.Ns b m → (hidT s₁.heap H).Ns b m := fun {b m} ⟨o, es, ep, e, d, r⟩ => ⟨o, es, ep, hidT_get e (out fun z => by
      subst z
      rw [ha] at e; cases e
      have d' : Data.seq vs.toArray _ = Data.dict es ep := d
      cases d'), d, r⟩
    have hKb : K.In (hidT s₁.heap H) := fun b o e => hidT_get (KX b o e) (by
      cases q : H b with
      | none => rfl
      | some u =>
        have z := only b (by rw [q]; simp)
        subst z
        rw [hK (by rw [q]; simp)] at e; cases e)
    have e0 : Env0 P w K mg (hidT s₁.heap H) callerA [] s₁ H := ⟨rfl, ⟨hKb, nsK hns, ⟨mb, nsK hb, hbb⟩, let ⟨mc, h1, h2⟩ := hlim; ⟨mc, nsK h1, h2⟩⟩, fun b o e => of_hidT e, Nat.le_of_eq (hidT_size _ _), trivial,
      fun b hb => absurd (show b ∈ ([] : List Addr) from hb) (by simp), hok, .of_eq hg⟩
    refine codeAny_mono ((F _ hKb (nsK hns)).run callerA [] s₁ H ⟨[.ref a], []⟩ [.ref a] [.ref a] _ _ hr e0 (hbind s₁ (.ref a)) (.cons rfl .nil) (hsp H hO hS)) fun r s' h => ?_
    match r, h with
    | .error e, h => exact (hCX H e s' h).elim
    | .ok .next, h => exact False.elim h
    | .ok .brk, h => exact False.elim h
    | .ok .cont, h => exact False.elim h
    | .ok (.ret u), ⟨v, H', os, bare, un, hok', r', q⟩ =>
      have q' : v = .bl true := q
      subst q'
      obtain rfl : u = Value.bool true := r'
      refine ⟨rfl, OldK.of_keep fun b o e => ?_, os, bare⟩
      rcases hO b with z | ⟨ob, xs, z⟩
      · exact un.keep b o e z (by intro z; exact absurd (show b ∈ ([] : List Addr) from z) (by simp)) (by simp)
      · obtain ⟨e1, _⟩ := hok b _ z
        obtain ⟨e2, _⟩ := hok' b _ (un.frzs b ob _ z)
        rw [e] at e1; cases e1
        exact e2
  cases hk : K.lookup a with
  | some o =>
    have e := KX a o hk
    rw [ha] at e
    cases e
    exact go (fun _ => none) (fun _ => .inl rfl) (.inr ⟨_, vs.toArray, _, hk, rfl, rfl, rfl, by rw [List.size_toArray, hi.length]; exact hl, by simpa using rv⟩) (fun b u z => by have z' : (none : Option HO) = some u := z; cases z') (fun b z => absurd rfl z) fun z => absurd rfl z
  | none =>
    refine go (fun b => if b = a then some (.frz { cls := .type "list", data := .seq vs.toArray } (.lst (ns.map V.int))) else none) (fun b => ?_) (.inl (.inr ⟨{ cls := .type "list", data := .seq vs.toArray }, if_pos rfl⟩)) (fun b u z => ?_) (fun b z => ?_) fun _ => hk
    · by_cases hb : b = a
      · exact .inr ⟨_, _, if_pos hb⟩
      · exact .inl (if_neg hb)
    · by_cases hb : b = a
      · have z' := (if_pos hb).symm.trans z
        cases z'
        subst hb
        exact ⟨ha, by rw [List.length_map]; exact hl, vs, _, rv, ha⟩
      · have z' := (if_neg hb).symm.trans z
        cases z'
    · by_cases hb : b = a
      · exact hb
      · exact absurd (if_neg hb) z
theorem walk_o {l : PySem.W.OpenLaw} {n k : Nat} {q : Program} {loose : List Str} {XP : (Str → Option Value) → Heap → Prop} {YP : World → Heap → Prop} {d : DefRec} {x : Str}
    (hn : l.most = some n) (hn2 : n ≤ sizeLine) (hdf : d.params.defaults = []) (hr : Rm k callerA)
    (F : ∀ (w : World) (mg : Str → Option Value) (fa : Addr) (h : Heap), YP w h → h.Ns mainGlobals mg → mg d.name = some (.ref fa) →
      ∃ (K : PySem.W.Frag) (fd : FuncData) (sp : Sp), K.In h ∧ (∀ (s : Shared) (u : Value), BindsTo s fd ⟨[u], []⟩ [(x, u)]) ∧
        (∀ (H : Hp) (a : Addr) (ns : List Int), ns.length ≤ n → Only H → SqL K H a (ns.map V.int) → sp [.ref a] H (fun v _ => v = .bl true) fun _ _ _ => False) ∧
        ∀ base : Heap, K.In base → base.Ns mainGlobals mg → FnO l.prog w K mg base (L2.CX l.prog w) k fa fd [x] sp) :
    PySem.W.WalkO q loose XP YP l.row.toRowW d [] (fun f vs => PySem.call f vs) := by
  refine Att.attach_call hn hdf fun w s₀ s₁ mg mb fa o pm cd doc a vs ns G Y ho hd hcd hmg hobj hints hlen hg => ?_
  obtain ⟨K, fd, sp, KX, hb, hsp, hF⟩ := F w mg fa _ Y G.T.g hmg
  exact call_o KX G.T.g G.T.b G.T.builtins G.T.nolimit hg hobj hints (Nat.le_trans hlen hn2) hr hF hb (fun H hO hS => hsp H a ns hlen hO hS) fun H e s' z => by
    obtain ⟨a, B, H', cls, d, _, _, _, _, _, _, _, z⟩ := z
    exact z
/-- THE END: the law's def answers True on every script -/
theorem law_told {R : Prog} {n m k L : Nat} {iL : DfI} (hL : R.defs[L]? = some iL) (hat : iL.d.at_ = (("law" : Str), (none : Option Str))) (hps : iL.ps = [("script" : Str)]) (hk : k = 2 * (m + 1)) {steps : Nat}
    (hpure : ∀ ns : List Int, ns.length ≤ n → ∃ s, (run R.pg (m + 1)).call L [.lst (ns.map .int)] [] = .ok (.bl true) s)
    (txt : R.txt = true) (form : (R.errs.all erForm) = true) (bind : allP dfBind R.defs) (bindE : allP erBind R.errs) (bindK : R.tb.xks = [] ∨ allP erBindK R.errs)
    (w : World) (mg : Str → Option Value) (fa : Addr) (h : Heap) (Y : (hookI steps R.prog (R.defs.map (·.d)) R.errs (fun K => R.ex K && (Fa.glo "law").ok K)).says w h) (G : h.Ns mainGlobals mg) (hmg : mg ("law" : Str) = some (.ref fa)) :
    ∃ (K : PySem.W.Frag) (fd : FuncData) (sp : Sp), K.In h ∧ (∀ (s : Shared) (u : Value), BindsTo s fd ⟨[u], []⟩ [(("script" : Str), u)]) ∧
      (∀ (H : Hp) (a : Addr) (ns : List Int), ns.length ≤ n → Only H → SqL K H a (ns.map V.int) → sp [.ref a] H (fun v _ => v = .bl true) fun _ _ _ => False) ∧
      ∀ base : Heap, K.In base → base.Ns mainGlobals mg → FnO R.prog w K mg base (L2.CX R.prog w) k fa fd ["script"] sp := by
  obtain ⟨K, KX, c⟩ := Y
  have hex := c.bools.2.2
  simp only [Bool.and_eq_true] at hex
  have c' : SaysI R.prog (R.defs.map (·.d)) R.errs R.ex K := by
    have e1 := c
    show obsI R.prog (R.defs.map (·.d)) R.errs R.ex K = valI (R.defs.map (·.d)) R.errs
    have e2 : obsI R.prog (R.defs.map (·.d)) R.errs (fun K => R.ex K && (Fa.glo "law").ok K) K = valI (R.defs.map (·.d)) R.errs := e1
    rw [← e2]
    unfold obsI
    simp only [hex.1, hex.2, Bool.and_true]
  have Tl : Told R K h mg := ⟨KX, G, c', txt, form, bind, bindE, bindK⟩
  have P := txt_parts (Bool.and_eq_true_iff.mp (show (R.txt0 && R.txx) = true from txt)).1
  have h1 := List.all_eq_true.mp P.defs iL (List.mem_of_getElem? hL)
  simp only [Bool.and_eq_true] at h1
  obtain ⟨⟨h2, h3⟩, h4⟩ := h1
  have h4' : iL.d.dfl = [] := List.isEmpty_iff.mp h4
  obtain ⟨fd, F⟩ := c'.def_ (i := L) (d := iL.d) (by rw [List.getElem?_map, hL]; rfl)
  have hdv : iL.d.dvs K = [] := by unfold DefD.dvs; rw [h4']; rfl
  rw [hdv] at F
  have hfa : (R.T K).fa L = fAd K iL.d.at_ := by show (match R.defs[L]? with | some d => fAd K d.d.at_ | none => 0) = _; rw [hL]
  have hglo : mg ("law" : Str) = some (.ref (ga K "law")) := He.glo_ok KX G hex.2
  have efa : fa = (R.T K).fa L := by
    rw [hmg] at hglo
    cases hglo
    rw [hfa, hat]
    rfl
  subst hk
  refine ⟨K, fd, spF ⟨K, R.T K⟩ ((run R.pg (m + 1)).call L), KX, fun s u => ?_, fun H a ns hl hO hS => ?_, fun base hb hg => ?_⟩
  · have := F.bindsA (ps := iL.ps) (fun kV doc pm an cdv ct us hl => allP_at bind hL kV doc pm an cdv ct us hl) s [u] (by rw [hps]; rfl)
    rw [hps] at this
    exact this
  · refine ⟨⟨fun _ => none, fun _ => False⟩, [], [.lst (ns.map .int)], ⟨(fun l c hl => by simp at hl), (fun l a hl => by cases hl), (fun l m a hl => by cases hl), (fun l a hl => by cases hl), (fun a ha => False.elim ha)⟩, .cons (.lst ?_ (rel_ints ns)) .nil, ?_⟩
    · rcases hS with h | h
      · refine .inl ⟨h, fun z => ?_⟩
        rcases z with z | ⟨l, z⟩
        · exact z
        · cases z
      · exact .inr h
    · obtain ⟨s, hs⟩ := hpure ns hl
      rw [hs]
      intro ω' H' e z v r
      cases r
      rfl
  · rw [efa]
    have g := gf_told Tl w base m
    have key := def_fn (Q := R.pg) g (fns_some hL) (by rw [hfa]; exact F) (scB_ok h2) h3 rfl rfl
    rw [hps] at key
    exact key
theorem cx_none {P : Program} {w : World} : ∀ (H : Hp) (s : Shared) (e : Value) (s' : Shared), L2.CX P w [] H s (fun _ _ _ => False) e s' → False := fun H s e s' x => by
  obtain ⟨a, B, H', cls, d, _, _, _, _, _, _, _, z⟩ := x
  exact z
end Iv

set_option Elab.async false
set_option linter.all false
set_option maxRecDepth 100000
set_option maxHeartbeats 4000000
/-! IvY: rows for reckoning with the small language. -/
namespace Iv
open PySem PySem.Spec L2
open PyProof.Rows hiding St
section
variable {P : Pt} {G : Fns} {X : Xh} {env : List Sl} {st : Store} {α β : Type} {sup : Nat → Nat → Option Bool} {xf : Nat → List Nat}
@[simp] theorem bind_ok (a : α) (s : Store) (f : α → Store → R β) : (R.ok a s).bind f = f a s := rfl
@[simp] theorem bind_exc (c : Nat) (fs : List D) (s : Store) (f : α → Store → R β) : (R.exc c fs s : R α).bind f = .exc c fs s := rfl
@[simp] theorem st_ok (a : α) (s : Store) (f : α → Store → RS) : (R.ok a s).st env f = f a s := rfl
@[simp] theorem st_exc (c : Nat) (fs : List D) (s : Store) (f : α → Store → RS) : (R.exc c fs s : R α).st env f = .exc c fs env s := rfl
@[simp] theorem then_nx (s : Store) (f : List Sl → Store → RS) : (RS.nx env s).then f = f env s := rfl
@[simp] theorem then_rt (d : D) (s : Store) (f : List Sl → Store → RS) : (RS.rt d s).then f = .rt d s := rfl
@[simp] theorem then_exc (c : Nat) (fs : List D) (s : Store) (f : List Sl → Store → RS) : (RS.exc c fs env s).then f = .exc c fs env s := rfl
@[simp] theorem lift_some (a : α) : lift (some a) st = .ok a st := rfl
@[simp] theorem liftS_ok (a : α) (f : α → RS) : liftS (some a) f = f a := rfl
@[simp] theorem tst_bl (b : Bool) : tst (.ok (.bl b) st) = .ok b st := rfl
@[simp] theorem tst_exc (c : Nat) (fs : List D) : tst (.exc c fs st) = .exc c fs st := rfl
@[simp] theorem der_int (i : Int) : der st (.int i) = .int i := rfl
@[simp] theorem der_str (i : Str) : der st (.str i) = .str i := rfl
@[simp] theorem der_bl (i : Bool) : der st (.bl i) = .bl i := rfl
@[simp] theorem der_non : der st .non = .non := rfl
@[simp] theorem der_tup (xs : List D) : der st (.tup xs) = .tup xs := rfl
@[simp] theorem der_lst (xs : List D) : der st (.lst xs) = .lst xs := rfl
@[simp] theorem der_obj (c : Nat) (fs : List (Nat × D)) : der st (.obj c fs) = .obj c fs := rfl
@[simp] theorem der_loc (l : Nat) : der st (.loc l) = (match st[l]? with | some c => c.toD | none => .loc l) := rfl
@[simp] theorem toD_lst (xs : List D) : Cell.toD (.lst xs) = .lst xs := rfl
@[simp] theorem toD_ins (c : Nat) (fs : List (Nat × D)) : Cell.toD (.ins c fs) = .obj c fs := rfl
@[simp] theorem brw_var (i : Nat) (r : R D) : brw env (.var i) st r = (match env[i]? with | some (.ow c) => .ok c.toD st | _ => r) := rfl
@[simp] theorem ev_var (i : Nat) : ev P G X (.var i) env st = (match env[i]? with | some (.d d) => .ok d st | _ => .stuck) := by unfold ev; rfl
@[simp] theorem brwY_nil  (r : R D) : brw env .nil st r = r := rfl
@[simp] theorem brwY_lit (d : D) (r : R D) : brw env (.lit d) st r = r := rfl
@[simp] theorem brwY_glb (x : Nat) (r : R D) : brw env (.glb x) st r = r := rfl
@[simp] theorem brwY_bin (o : Op) (a b : Ex) (r : R D) : brw env (.bin o a b) st r = r := rfl
@[simp] theorem brwY_neg (a : Ex) (r : R D) : brw env (.neg a) st r = r := rfl
@[simp] theorem brwY_cmp (o : Cm) (a b : Ex) (r : R D) : brw env (.cmp o a b) st r = r := rfl
@[simp] theorem brwY_chn (o p : Cm) (a b c : Ex) (r : R D) : brw env (.chn o p a b c) st r = r := rfl
@[simp] theorem brwY_one (a : Ex) (r : R D) : brw env (.one a) st r = r := rfl
@[simp] theorem brwY_ite (t a b : Ex) (r : R D) : brw env (.ite t a b) st r = r := rfl
@[simp] theorem brwY_call (f : Nat) (as : List Ex) (r : R D) : brw env (.call f as) st r = r := rfl
@[simp] theorem brwY_callv (i : Nat) (as : List Ex) (r : R D) : brw env (.callv i as) st r = r := rfl
@[simp] theorem brwY_mk (c : Nat) (as : List Ex) (r : R D) : brw env (.mk c as) st r = r := rfl
@[simp] theorem brwY_meth (o : Ex) (m : Nat) (as : List Ex) (r : R D) : brw env (.meth o m as) st r = r := rfl
@[simp] theorem brwY_bf (b : Bf) (as : List Ex) (r : R D) : brw env (.bf b as) st r = r := rfl
@[simp] theorem brwY_isi (e : Ex) (ts : List Ty) (r : R D) : brw env (.isi e ts) st r = r := rfl
@[simp] theorem brwY_att (o : Ex) (f : Nat) (r : R D) : brw env (.att o f) st r = r := rfl
@[simp] theorem brwY_idx (o i : Ex) (r : R D) : brw env (.idx o i) st r = r := rfl
@[simp] theorem brwY_slc (o lo hi : Ex) (r : R D) : brw env (.slc o lo hi) st r = r := rfl
@[simp] theorem brwY_tup (es : List Ex) (r : R D) : brw env (.tup es) st r = r := rfl
@[simp] theorem brwY_lst (es : List Ex) (r : R D) : brw env (.lst es) st r = r := rfl
@[simp] theorem brwY_cpr (elt : Ex) (own : List Nat) (tg : Tg) (it ifs : Ex) (r : R D) : brw env (.cpr elt own tg it ifs) st r = r := rfl
@[simp] theorem brwY_rng (a b : Ex) (r : R D) : brw env (.rng a b) st r = r := rfl
@[simp] theorem brwY_enm (e : Ex) (r : R D) : brw env (.enm e) st r = r := rfl
@[simp] theorem brwY_zip (a b : Ex) (r : R D) : brw env (.zip a b) st r = r := rfl
@[simp] theorem brwY_xat (i f : Nat) (r : R D) : brw env (.xat i f) st r = r := rfl
@[simp] theorem brwY_xis (i t : Nat) (r : R D) : brw env (.xis i t) st r = r := rfl
@[simp] theorem brwY_xkf (c : Nat) (ns : List Nat) (as : List Ex) (f : Nat) (r : R D) : brw env (.xkf c ns as f) st r = r := rfl
@[simp] theorem brwY_rpr (a : Ex) (r : R D) : brw env (.rpr a) st r = r := rfl
@[simp] theorem brwY_lrn (a b : Ex) (r : R D) : brw env (.lrn a b) st r = r := rfl
@[simp] theorem brwY_isc (e : Ex) (c : Nat) (r : R D) : brw env (.isc e c) st r = r := rfl
@[simp] theorem brwY_oeq (n : Bool) (a b : Ex) (r : R D) : brw env (.oeq n a b) st r = r := rfl
@[simp] theorem brwY_not (a : Ex) (r : R D) : brw env (.not a) st r = r := rfl
@[simp] theorem brwY_and (a b : Ex) (r : R D) : brw env (.and a b) st r = r := rfl
@[simp] theorem brwY_or (a b : Ex) (r : R D) : brw env (.or a b) st r = r := rfl
@[simp] theorem evY_lit (d : D) : ev P G X (.lit d) env st = (.ok d st) := by
  conv => lhs; unfold ev
  try rfl
@[simp] theorem evY_glb (x : Nat) : ev P G X (.glb x) env st = (lift (P.gl x) st) := by
  conv => lhs; unfold ev
  try rfl
@[simp] theorem evY_bin (o : Op) (a b : Ex) : ev P G X (.bin o a b) env st = ((brw env a st (ev P G X a env st)).bind fun x s1 => (brw env b s1 (ev P G X b env s1)).bind fun y s2 => lift (opB o (der s2 x) (der s2 y)) s2) := by
  conv => lhs; unfold ev
  try rfl
@[simp] theorem evY_neg (a : Ex) : ev P G X (.neg a) env st = ((ev P G X a env st).bind fun x s1 => match x with
    | .int i => .ok (.int (-i)) s1
    | _ => .stuck) := by
  conv => lhs; unfold ev
  try rfl
@[simp] theorem evY_cmp (o : Cm) (a b : Ex) : ev P G X (.cmp o a b) env st = ((brw env a st (ev P G X a env st)).bind fun x s1 => (brw env b s1 (ev P G X b env s1)).bind fun y s2 => lift ((cmB o (der s2 x) (der s2 y)).map .bl) s2) := by
  conv => lhs; unfold ev
  try rfl
@[simp] theorem evY_chn (o p : Cm) (a b c : Ex) : ev P G X (.chn o p a b c) env st = ((ev P G X a env st).bind fun x s1 => (ev P G X b env s1).bind fun y s2 => match cmB o x y with
    | some true => (ev P G X c env s2).bind fun z s3 => lift ((cmB p y z).map .bl) s3
    | some false => .ok (.bl false) s2
    | none => .stuck) := by
  conv => lhs; unfold ev
  try rfl
@[simp] theorem evY_not (a : Ex) : ev P G X (.not a) env st = ((ev P G X a env st).bind fun x s1 => match x with
    | .bl b => .ok (.bl (!b)) s1
    | _ => .stuck) := by
  conv => lhs; unfold ev
  try rfl
@[simp] theorem evY_and (a b : Ex) : ev P G X (.and a b) env st = ((ev P G X a env st).bind fun x s1 => match x with
    | .bl true => ev P G X b env s1
    | .bl false => .ok (.bl false) s1
    | _ => .stuck) := by
  conv => lhs; unfold ev
  try rfl
@[simp] theorem evY_or (a b : Ex) : ev P G X (.or a b) env st = ((ev P G X a env st).bind fun x s1 => match x with
    | .bl true => .ok (.bl true) s1
    | .bl false => ev P G X b env s1
    | _ => .stuck) := by
  conv => lhs; unfold ev
  try rfl
@[simp] theorem evY_one (a : Ex) : ev P G X (.one a) env st = (ev P G X a env st) := by
  conv => lhs; unfold ev
  try rfl
@[simp] theorem evY_ite (t a b : Ex) : ev P G X (.ite t a b) env st = ((ev P G X t env st).bind fun x s1 => match x with
    | .bl true => ev P G X a env s1
    | .bl false => ev P G X b env s1
    | _ => .stuck) := by
  conv => lhs; unfold ev
  try rfl
@[simp] theorem evY_call (f : Nat) (as : List Ex) : ev P G X (.call f as) env st = ((evs P G X as env st).bind fun ds s1 => G.call f ds s1) := by
  conv => lhs; unfold ev
  try rfl
@[simp] theorem evY_callv (i : Nat) (as : List Ex) : ev P G X (.callv i as) env st = (match env[i]? with
    | some (.d (.fn f)) => if P.isFn f then (evs P G X as env st).bind fun ds s1 => G.call f ds s1 else .stuck
    | _ => .stuck) := by
  conv => lhs; unfold ev
  try rfl
@[simp] theorem evY_mk (c : Nat) (as : List Ex) : ev P G X (.mk c as) env st = ((evs P G X as env st).bind fun ds s1 => G.make c ds s1) := by
  conv => lhs; unfold ev
  try rfl
@[simp] theorem evY_meth (o : Ex) (m : Nat) (as : List Ex) : ev P G X (.meth o m as) env st = ((ev P G X o env st).bind fun x s1 => match der s1 x with
    | .obj c fs => match fs.lookup m, P.meth c m with
      | none, some f => (evs P G X as env s1).bind fun ds s2 => G.call f (x :: ds) s2
      | _, _ => .stuck
    | _ => .stuck) := by
  conv => lhs; unfold ev
  try rfl
@[simp] theorem evY_bf (b : Bf) (as : List Ex) : ev P G X (.bf b as) env st = ((evb P G X as env st).bind fun ds s1 => lift (bfD b (ds.map (der s1))) s1) := by
  conv => lhs; unfold ev
  try rfl
@[simp] theorem evY_isi (e : Ex) (ts : List Ty) : ev P G X (.isi e ts) env st = ((brw env e st (ev P G X e env st)).bind fun x s1 => match der s1 x with
    | .fn _ => .stuck
    | .loc _ => .stuck
    | .obj _ _ => .stuck
    | d => .ok (.bl (ts.any (isT1 · d))) s1) := by
  conv => lhs; unfold ev
  try rfl
@[simp] theorem evY_isc (e : Ex) (c : Nat) : ev P G X (.isc e c) env st = ((brw env e st (ev P G X e env st)).bind fun x s1 => if P.own c then (match der s1 x with
    | .fn _ => .stuck
    | .loc _ => .stuck
    | .obj c' _ => if c' = c then .ok (.bl true) s1 else .stuck
    | _ => .ok (.bl false) s1) else .stuck) := by
  conv => lhs; unfold ev
  try rfl
@[simp] theorem evY_att (o : Ex) (f : Nat) : ev P G X (.att o f) env st = ((brw env o st (ev P G X o env st)).bind fun x s1 => match der s1 x with
    | .obj c fs => if P.isAt c f then lift (fs.lookup f) s1 else .stuck
    | _ => .stuck) := by
  conv => lhs; unfold ev
  try rfl
@[simp] theorem evY_idx (o i : Ex) : ev P G X (.idx o i) env st = ((brw env o st (ev P G X o env st)).bind fun x s1 => (ev P G X i env s1).bind fun y s2 => lift (idxD (der s2 x) y) s2) := by
  conv => lhs; unfold ev
  try rfl
@[simp] theorem evY_slc (o lo hi : Ex) : ev P G X (.slc o lo hi) env st = ((brw env o st (ev P G X o env st)).bind fun x s1 => (evo lo s1 (ev P G X lo env s1)).bind fun l s2 => (evo hi s2 (ev P G X hi env s2)).bind fun h s3 => lift (slcD (der s3 x) l h) s3) := by
  conv => lhs; unfold ev
  try rfl
@[simp] theorem evY_tup (es : List Ex) : ev P G X (.tup es) env st = ((evs P G X es env st).bind fun ds s1 => if fits ds.length then .ok (.tup ds) s1 else .stuck) := by
  conv => lhs; unfold ev
  try rfl
@[simp] theorem evY_lst (es : List Ex) : ev P G X (.lst es) env st = ((evs P G X es env st).bind fun ds s1 => if fits ds.length then .ok (.lst ds) s1 else .stuck) := by
  conv => lhs; unfold ev
  try rfl
@[simp] theorem evY_rng (a b : Ex) : ev P G X (.rng a b) env st = ((ev P G X a env st).bind fun x s1 => (ev P G X b env s1).bind fun y s2 => match x, y with
    | .int i, .int j => lift (rngD i j) s2
    | _, _ => .stuck) := by
  conv => lhs; unfold ev
  try rfl
@[simp] theorem evY_enm (e : Ex) : ev P G X (.enm e) env st = ((ev P G X e env st).bind fun x s1 => lift ((itemsD x).map fun xs => .lst (enmL 0 xs)) s1) := by
  conv => lhs; unfold ev
  try rfl
@[simp] theorem evY_zip (a b : Ex) : ev P G X (.zip a b) env st = ((ev P G X a env st).bind fun x s1 => (ev P G X b env s1).bind fun y s2 => match x, y with
    | .lst xs, .lst ys => .ok (.lst (zipL xs ys)) s2
    | .tup xs, .tup ys => .ok (.lst (zipL xs ys)) s2
    | _, _ => .stuck) := by
  conv => lhs; unfold ev
  try rfl
@[simp] theorem evY_xat (i f : Nat) : ev P G X (.xat i f) env st = (match env[i]?, X with
    | some .xc, some q => lift (q.2.lookup f) st
    | _, _ => .stuck) := by
  conv => lhs; unfold ev
  try rfl
@[simp] theorem evY_xis (i t : Nat) : ev P G X (.xis i t) env st = (match env[i]?, X with
    | some .xc, some q => lift ((P.xis q.1 t).map .bl) st
    | _, _ => .stuck) := by
  conv => lhs; unfold ev
  try rfl
@[simp] theorem evY_xkf (c : Nat) (ns : List Nat) (as : List Ex) (f : Nat) : ev P G X (.xkf c ns as f) env st = ((evs P G X as env st).bind fun ds s1 => if ds.length = ns.length then lift ((ns.zip ds).lookup f) s1 else .stuck) := by
  conv => lhs; unfold ev
  try rfl
@[simp] theorem evY_rpr (a : Ex) : ev P G X (.rpr a) env st = ((brw env a st (ev P G X a env st)).bind fun x s1 => lift (rprD (der s1 x)) s1) := by
  conv => lhs; unfold ev
  try rfl
@[simp] theorem evY_lrn (a b : Ex) : ev P G X (.lrn a b) env st = ((ev P G X a env st).bind fun x s1 => (ev P G X b env s1).bind fun y s2 => match x, y with
    | .int i, .int j => if fits (j - i).toNat then lift (rngD i j) s2 else .stuck
    | _, _ => .stuck) := by
  conv => lhs; unfold ev
  try rfl
@[simp] theorem evY_oeq (n : Bool) (a b : Ex) : ev P G X (.oeq n a b) env st = ((ev P G X a env st).bind fun x s1 => (ev P G X b env s1).bind fun y s2 => match x with
    | .obj c fs => (match P.eqf c with
      | some f => if okEq c y then (match G.call f [.obj c fs, y] s2 with
        | .ok (.bl r) s3 => .ok (.bl (if n then !r else r)) s3
        | _ => .stuck) else .stuck
      | none => .stuck)
    | _ => .stuck) := by
  conv => lhs; unfold ev
  try rfl
@[simp] theorem evs_nil : evs P G X [] env st = .ok [] st := by unfold evs; rfl
@[simp] theorem evs_cons (e : Ex) (es : List Ex) : evs P G X (e :: es) env st = (ev P G X e env st).bind fun x s1 => (evs P G X es env s1).bind fun xs s2 => .ok (x :: xs) s2 := by conv => lhs; unfold evs
@[simp] theorem evb_nil : evb P G X [] env st = .ok [] st := by unfold evb; rfl
@[simp] theorem evb_cons (e : Ex) (es : List Ex) : evb P G X (e :: es) env st = (brw env e st (ev P G X e env st)).bind fun x s1 => (evb P G X es env s1).bind fun xs s2 => .ok (x :: xs) s2 := by conv => lhs; unfold evb
@[simp] theorem exs_nil : exs P G sup xf X [] env st = .nx env st := by unfold exs; rfl
@[simp] theorem exs_cons (s : Sm) (r : List Sm) : exs P G sup xf X (s :: r) env st = (ex P G sup xf X s env st).then fun e s1 => exs P G sup xf X r e s1 := by conv => lhs; unfold exs
@[simp] theorem ex_asg (t : Tg) (e : Ex) : ex P G sup xf X (.asg t e) env st = ((ev P G X e env st).st env fun x s => liftS (asgT t x env) fun env2 => .nx env2 s) := by
  conv => lhs; unfold ex
  try rfl
@[simp] theorem ex_mas (is : List Nat) (es : List (Bool × Ex)) : ex P G sup xf X (.mas is es) env st = ((evm P G X es env st).st env fun xs s => liftS (setAllS env is xs) fun env2 => .nx env2 s) := by
  conv => lhs; unfold ex
  try rfl
@[simp] theorem ex_own (i : Nat) (e : Ex) : ex P G sup xf X (.own i e) env st = ((evm1 P G X true e env st).st env fun x s => liftS (setAllS env [i] [x]) fun env2 => .nx env2 s) := by
  conv => lhs; unfold ex
  try rfl
@[simp] theorem ex_new (i : Nat) (e : Ex) : ex P G sup xf X (.new i e) env st = ((ev P G X e env st).st env fun x s => liftS (D.toCell x) fun c => liftS (setSl env i (.d (.loc s.length))) fun env2 => .nx env2 (s ++ [c])) := by
  conv => lhs; unfold ex
  try rfl
@[simp] theorem ex_frz (i : Nat) : ex P G sup xf X (.frz i) env st = (match env[i]? with
    | some (.ow c) => if i = 0 then .stuck else .nx (env.set i (.d c.toD)) st
    | _ => .stuck) := by
  conv => lhs; unfold ex
  try rfl
@[simp] theorem ex_aug (i : Nat) (o : Op) (e : Ex) : ex P G sup xf X (.aug i o e) env st = (match env[i]? with
    | some (.d x) => (ev P G X e env st).st env fun y s => match x, y with
      | .int a, .int b => liftS (opB o (.int a) (.int b)) fun z => .nx (env.set i (.d z)) s
      | _, _ => .stuck
    | _ => .stuck) := by
  conv => lhs; unfold ex
  try rfl
@[simp] theorem ex_app (i : Nat) (e : Ex) : ex P G sup xf X (.app i e) env st = (liftS (slL env st i) fun _ => (ev P G X e env st).st env fun x s => chg env s i fun c => match c with
    | .lst xs => if xs.length < big then some (.lst (xs ++ [x])) else none
    | _ => none) := by
  conv => lhs; unfold ex
  try rfl
@[simp] theorem ex_ext (i : Nat) (e : Ex) : ex P G sup xf X (.ext i e) env st = (liftS (slL env st i) fun _ => (brw env e st (ev P G X e env st)).st env fun x s => chg env s i fun c => match c, der s x with
    | .lst xs, .lst ys => if fits (xs.length + ys.length) then some (.lst (xs ++ ys)) else none
    | .lst xs, .tup ys => if fits (xs.length + ys.length) then some (.lst (xs ++ ys)) else none
    | _, _ => none) := by
  conv => lhs; unfold ex
  try rfl
@[simp] theorem ex_ins (i : Nat) (a e : Ex) : ex P G sup xf X (.ins i a e) env st = (liftS (slL env st i) fun _ => (ev P G X a env st).st env fun k s => (ev P G X e env s).st env fun x s1 => chg env s1 i fun c => match c, k with
    | .lst xs, .int k => if 0 ≤ k ∧ k ≤ xs.length ∧ xs.length < big then some (.lst (xs.take k.toNat ++ x :: xs.drop k.toNat)) else none
    | _, _ => none) := by
  conv => lhs; unfold ex
  try rfl
@[simp] theorem ex_sti (i : Nat) (k e : Ex) : ex P G sup xf X (.sti i k e) env st = (liftS (slA env i) fun _ => (ev P G X e env st).st env fun x s => (ev P G X k env s).st env fun k s1 => chg env s1 i fun c => match c, k with
    | .lst xs, .int k => (ixD xs.length k).map fun j => .lst (xs.set j x)
    | _, _ => none) := by
  conv => lhs; unfold ex
  try rfl
@[simp] theorem ex_sta (i f : Nat) (e : Ex) : ex P G sup xf X (.sta i f e) env st = (liftS (slA env i) fun _ => (ev P G X e env st).st env fun x s => chg env s i fun c => match c with
    | .ins c fs => if P.isAt c f && decide (fs.length < 900) then some (.ins c (putF f x fs)) else none
    | _ => none) := by
  conv => lhs; unfold ex
  try rfl
@[simp] theorem ex_exp (e : Ex) : ex P G sup xf X (.exp e) env st = ((ev P G X e env st).st env fun _ s => .nx env s) := by
  conv => lhs; unfold ex
  try rfl
@[simp] theorem ex_ret (e : Ex) : ex P G sup xf X (.ret e) env st = ((brw env e st (ev P G X e env st)).st env fun x s => .rt x s) := by
  conv => lhs; unfold ex
  try rfl
@[simp] theorem ex_retN  : ex P G sup xf X (.retN ) env st = (.rt .non st) := by
  conv => lhs; unfold ex
  try rfl
@[simp] theorem ex_pass  : ex P G sup xf X (.pass ) env st = (.nx env st) := by
  conv => lhs; unfold ex
  try rfl
@[simp] theorem ex_iff (t : Ex) (a b : List Sm) : ex P G sup xf X (.iff t a b) env st = ((tst (ev P G X t env st)).st env fun c s => if c then exs P G sup xf X a env s else exs P G sup xf X b env s) := by
  conv => lhs; unfold ex
  try rfl
theorem ex_whl (t : Ex) (b : List Sm) : ex P G sup xf X (.whl t b) env st = (loopW (fun env st => tst (ev P G X t env st)) (fun env st => exs P G sup xf X b env st) G.fuel env st) := by
  conv => lhs; unfold ex
  try rfl
theorem ex_for_ (tg : Tg) (it : Ex) (b : List Sm) : ex P G sup xf X (.for_ tg it b) env st = ((ev P G X it env st).st env fun x s => liftS (itemsD x) fun xs => loopF (fun y e s => liftS (asgT tg y e) fun e2 => exs P G sup xf X b e2 s) xs env s) := by
  conv => lhs; unfold ex
  try rfl
@[simp] theorem ex_rai (c : Nat) (as : List Ex) : ex P G sup xf X (.rai c as) env st = ((evs P G X as env st).st env fun ds s => if ds.length = (xf c).length then .exc c ds env s else .stuck) := by
  conv => lhs; unfold ex
  try rfl
theorem ex_try_ (b : List Sm) (c : Nat) (n : Option Nat) (u : List Sm) : ex P G sup xf X (.try_ b c n u) env st = (match exs P G sup xf X b env st with
    | .exc c' fs env2 s => match sup c' c with
      | some true => (match n with
        | some i => (exs P G sup xf (some (c', (xf c').zip fs)) u ((unx env2).set i .xc) s).end_ i
        | none => (exs P G sup xf none u (unx env2) s).end0)
      | some false => .exc c' fs env2 s
      | none => .stuck
    | r => r) := by
  conv => lhs; unfold ex
  try rfl
end
@[simp] theorem opB_add (x y : D) : opB .add x y = addD x y := rfl
@[simp] theorem opB_sub (x y : D) : opB .sub x y = subD x y := rfl
@[simp] theorem opB_mul (x y : D) : opB .mul x y = mulD x y := rfl
@[simp] theorem opB_fdv (x y : D) : opB .fdv x y = fdvD x y := rfl
@[simp] theorem opB_mod (x y : D) : opB .mod x y = modD x y := rfl
@[simp] theorem opB_pow (x y : D) : opB .pow x y = powD x y := rfl
@[simp] theorem addD_int (i j : Int) : addD (.int i) (.int j) = some (.int (i + j)) := rfl
@[simp] theorem subD_int (i j : Int) : subD (.int i) (.int j) = some (.int (i - j)) := rfl
theorem mulD_l (i j : Int) (h : -(2 ^ 64) < i ∧ i < 2 ^ 64) : mulD (.int i) (.int j) = some (.int (i * j)) := by
  show (if smallI i || smallI j then _ else _) = _
  rw [if_pos]
  unfold smallI
  have h1 := h.1
  have h2 := h.2
  simp
  omega
theorem mulD_r (i j : Int) (h : -(2 ^ 64) < j ∧ j < 2 ^ 64) : mulD (.int i) (.int j) = some (.int (i * j)) := by
  show (if smallI i || smallI j then _ else _) = _
  rw [if_pos]
  unfold smallI
  have h1 := h.1
  have h2 := h.2
  simp
  omega
theorem fdvD_int (i j : Int) (h : 0 < j ∧ j < 1073741824) : fdvD (.int i) (.int j) = some (.int (i / j)) := by
  show (if decide (0 < j) && decide (j < 1073741824) then _ else _) = _
  rw [if_pos (by simp [h.1, h.2])]
theorem modD_int (i j : Int) (h : 0 < j) : modD (.int i) (.int j) = some (.int (i % j)) := by
  show (if decide (0 < j) then _ else _) = _
  rw [if_pos (by simp [h])]
@[simp] theorem cmB_lt (i j : Int) : cmB .lt (.int i) (.int j) = some (decide (i < j)) := rfl
@[simp] theorem cmB_le (i j : Int) : cmB .le (.int i) (.int j) = some (decide (i ≤ j)) := rfl
@[simp] theorem cmB_gt (i j : Int) : cmB .gt (.int i) (.int j) = some (decide (j < i)) := rfl
@[simp] theorem cmB_ge (i j : Int) : cmB .ge (.int i) (.int j) = some (decide (j ≤ i)) := rfl
@[simp] theorem cmB_eq (x y : D) : cmB .eq x y = eqD x y := rfl
@[simp] theorem cmB_ne (x y : D) : cmB .ne x y = (eqD x y).map (!·) := rfl
@[simp] theorem cmB_in (x y : D) : cmB .in_ x y = inD x y := rfl
@[simp] theorem cmB_nin (x y : D) : cmB .nin x y = (inD x y).map (!·) := rfl
@[simp] theorem cmB_is (x y : D) : cmB .is_ x y = isND x y := rfl
@[simp] theorem cmB_isn (x y : D) : cmB .isn x y = (isND x y).map (!·) := rfl
@[simp] theorem eqD_int (i j : Int) : eqD (.int i) (.int j) = some (decide (i = j)) := by
  show (if SeqAt.shaped (.int i) && SeqAt.shaped (.int j) then some (PyData.eqv (.int i) (.int j)) else none) = _
  rw [if_pos (show (SeqAt.shaped (.int i) && SeqAt.shaped (.int j)) = true from rfl)]
  rfl
@[simp] theorem isND_int (i : Int) : isND (.int i) .non = some false := rfl
@[simp] theorem isND_tup (i : List D) : isND (.tup i) .non = some false := rfl
@[simp] theorem isND_lst (i : List D) : isND (.lst i) .non = some false := rfl
@[simp] theorem isND_bl (i : Bool) : isND (.bl i) .non = some false := rfl
@[simp] theorem isND_str (i : Str) : isND (.str i) .non = some false := rfl
@[simp] theorem isND_non : isND .non .non = some true := rfl
@[simp] theorem idxD_lst (xs : List D) (i : Int) : idxD (.lst xs) (.int i) = L2.atI xs i := rfl
@[simp] theorem idxD_tup (xs : List D) (i : Int) : idxD (.tup xs) (.int i) = L2.atI xs i := rfl
theorem atI_nat {α : Type} (xs : List α) (i : Nat) : L2.atI xs (i : Int) = xs[i]? := by
  unfold L2.atI L2.ixN
  rw [if_pos (by omega)]
  by_cases h : i < xs.length
  · rw [if_pos (by omega)]; simp
  · rw [if_neg (by omega), List.getElem?_eq_none (by omega)]; rfl
@[simp] theorem atI_0 {α : Type} (xs : List α) : L2.atI xs 0 = xs[0]? := atI_nat xs 0
@[simp] theorem atI_1 {α : Type} (xs : List α) : L2.atI xs 1 = xs[1]? := atI_nat xs 1
@[simp] theorem atI_2 {α : Type} (xs : List α) : L2.atI xs 2 = xs[2]? := atI_nat xs 2
@[simp] theorem atI_3 {α : Type} (xs : List α) : L2.atI xs 3 = xs[3]? := atI_nat xs 3
theorem ixD_nat (n i : Nat) (h : i < n) : ixD n (i : Int) = some i := by
  show L2.ixN n i = some i
  unfold L2.ixN
  rw [if_pos (by omega), if_pos (by omega)]
  simp
@[simp] theorem bf_len (ds : List D) : bfD .len ds = lenD ds := rfl
@[simp] theorem bf_tuple (ds : List D) : bfD .tuple ds = tupleD ds := rfl
@[simp] theorem bf_list (ds : List D) : bfD .list ds = listD ds := rfl
@[simp] theorem bf_max (ds : List D) : bfD .max ds = maxD ds := rfl
@[simp] theorem bf_min (ds : List D) : bfD .min ds = minD ds := rfl
@[simp] theorem bf_sum (ds : List D) : bfD .sum ds = sumD ds := rfl
@[simp] theorem bf_abs (ds : List D) : bfD .abs ds = absD ds := rfl
@[simp] theorem bf_int (ds : List D) : bfD .int ds = intD ds := rfl
@[simp] theorem bf_all (ds : List D) : bfD .all ds = allD ds := rfl
@[simp] theorem bf_any (ds : List D) : bfD .any ds = anyD ds := rfl
@[simp] theorem lenD_lst (xs : List D) : lenD [.lst xs] = some (.int xs.length) := rfl
@[simp] theorem lenD_tup (xs : List D) : lenD [.tup xs] = some (.int xs.length) := rfl
@[simp] theorem intD_int (i : Int) : intD [.int i] = some (.int i) := rfl
@[simp] theorem intD_bl (b : Bool) : intD [.bl b] = some (.int (if b then 1 else 0)) := rfl
@[simp] theorem absD_int (i : Int) : absD [.int i] = some (.int i.natAbs) := by
  show some (D.int (if i < 0 then -i else i)) = _
  congr 2
  split <;> omega
@[simp] theorem tupleD_tup (xs : List D) : tupleD [.tup xs] = some (.tup xs) := rfl
@[simp] theorem tupleD_lst (xs : List D) : tupleD [.lst xs] = some (.tup xs) := rfl
@[simp] theorem listD_tup (xs : List D) : listD [.tup xs] = some (.lst xs) := rfl
@[simp] theorem listD_lst (xs : List D) : listD [.lst xs] = some (.lst xs) := rfl
@[simp] theorem asgT_nm (i : Nat) (d : D) (env : List Sl) : asgT (.nm i) d env = setSl env i (.d d) := rfl
theorem setSl_in {env : List Sl} {i : Nat} (s : Sl) (h : i < env.length) : setSl env i s = some (env.set i s) := by unfold setSl; rw [if_pos h]
@[simp] theorem fits_of (n : Nat) : fits n = decide (n ≤ 16777216) := rfl
theorem loopC_pure {f : D → Store → R (Option D)} {st : Store} (g : D → Option D) : ∀ {xs : List D}, (∀ x ∈ xs, f x st = .ok (g x) st) → loopC f xs st = .ok (xs.filterMap g) st
  | [], _ => rfl
  | x :: xs, h => by
    have ih := loopC_pure g fun y hy => h y (List.mem_cons_of_mem _ hy)
    unfold loopC
    rw [h x List.mem_cons_self]
    dsimp only
    rw [ih, List.filterMap_cons]
    cases g x <;> rfl
theorem cpr_pure {P : Pt} {G : Fns} {X : Xh} {elt it ifs : Ex} {own : List Nat} {tg : Tg} {env : List Sl} {st : Store} {x : D} {xs : List D} (g : D → Option D) (hi : brw env it st (ev P G X it env st) = .ok x st) (hx : itemsD x = some xs) (hl : xs.length < 16777216)
    (hg : ∀ y ∈ xs, ∃ env2, asgT tg y (wipeE env own) = some env2 ∧ bodyE P G X elt ifs env2 st = .ok (g y) st) : ev P G X (.cpr elt own tg it ifs) env st = .ok (.lst (xs.filterMap g)) st := by
  rw [ev_cpr, hi, bind_ok, hx]
  dsimp only
  rw [if_pos (show xs.length < big from hl), loopC_pure g fun y hy => ?_, bind_ok]
  obtain ⟨env2, h1, h2⟩ := hg y hy
  rw [h1]
  exact h2
@[simp] theorem bodyE_nil {P : Pt} {G : Fns} {X : Xh} {elt : Ex} {env : List Sl} {st : Store} : bodyE P G X elt .nil env st = (ev P G X elt env st).bind fun z s3 => .ok (some z) s3 := rfl
theorem bodyE_if {P : Pt} {G : Fns} {X : Xh} {elt ifs : Ex} {env : List Sl} {st : Store} {b : Bool} (hn : ifs ≠ .nil) (h : tst (ev P G X ifs env st) = .ok b st) : bodyE P G X elt ifs env st = if b then (ev P G X elt env st).bind fun z s3 => .ok (some z) s3 else .ok none st := by
  unfold bodyE
  have e : ifsE P G X ifs env st = tst (ev P G X ifs env st) := by
    unfold ifsE
    cases ifs <;> first | rfl | exact (hn rfl).elim
  rw [e, h, bind_ok]
end Iv

set_option Elab.async false
set_option linter.all false
set_option maxRecDepth 100000
set_option maxHeartbeats 4000000
/-! IvZ: the pure side: calls, loops, data; what is common to many laws. -/
namespace Iv
open PySem PySem.Spec
/-! ### calls -/
/-- how a call ends -/
def fin : RS → Iv.R D
  | .nx _ s => .ok .non s
  | .rt x s => .ok x s
  | .exc c fs _ s => .exc c fs s
  | .stuck => .stuck
@[simp] theorem fin_nx (e : List Sl) (s : Store) : fin (.nx e s) = .ok .non s := rfl
@[simp] theorem fin_rt (d : D) (s : Store) : fin (.rt d s) = .ok d s := rfl
@[simp] theorem fin_exc (c : Nat) (fs : List D) (e : List Sl) (s : Store) : fin (.exc c fs e s) = .exc c fs s := rfl
/-- how an __init__ ends -/
def finM (c : Nat) : RS → Iv.R D
  | .nx (.ow (.ins c' fs) :: _) s => if c' = c then .ok (.obj c fs) s else .stuck
  | .exc c fs _ s => .exc c fs s
  | _ => .stuck
@[simp] theorem finM_nx (c : Nat) (fs : List (Nat × D)) (e : List Sl) (s : Store) : finM c (.nx (.ow (.ins c fs) :: e) s) = .ok (.obj c fs) s := by
  show (if c = c then _ else _) = _
  rw [if_pos rfl]
@[simp] theorem finM_exc (c k : Nat) (fs : List D) (e : List Sl) (s : Store) : finM c (.exc k fs e s) = .exc k fs s := rfl
section
variable {Q : Pg} {m i c f : Nat} {d : Fd} {ds : List D} {st : Store}
theorem call_fd (hi : Q.fns i = some d) (hl : ds.length = d.np) (st : Store) : (run Q (m + 1)).call i ds st = fin (exs Q.pt (run Q m) Q.sup Q.xf none d.body (startE d.ns ds) st) := by
  show (match Q.fns i with | some d => _ | none => _) = _
  rw [hi]
  show (if ds.length = d.np then _ else _) = _
  rw [if_pos hl]
  have all : ∀ r : RS, (match r with
      | .nx _ s => .ok .non s
      | .rt x s => .ok x s
      | .exc c fs _ s => .exc c fs s
      | .stuck => .stuck : Iv.R D) = fin r := fun r => by cases r <;> rfl
  exact all _
theorem make_fd (hc : Q.cls c = some f) (hi : Q.fns f = some d) (hl : ds.length + 1 = d.np) (st : Store) : (run Q (m + 1)).make c ds st = finM c (exs Q.pt (run Q m) Q.sup Q.xf none d.body (.ow (.ins c []) :: startE (d.ns - 1) ds) st) := by
  show (match Q.cls c with | some f => _ | none => _) = _
  rw [hc]
  show (match Q.fns f with | some d => _ | none => _) = _
  rw [hi]
  show (if ds.length + 1 = d.np then _ else _) = _
  rw [if_pos hl]
  have all : ∀ r : RS, (match r with
      | .nx (.ow (.ins c' fs) :: _) s => if c' = c then .ok (.obj c fs) s else .stuck
      | .exc c fs _ s => .exc c fs s
      | _ => .stuck : Iv.R D) = finM c r := fun r => by
    unfold finM
    rfl
  exact all _
theorem run_fuel : (run Q m).fuel = Q.fuel := by cases m <;> rfl
end
theorem lv {k m : Nat} (h : k + 1 ≤ m) : ∃ j, m = j + 1 ∧ k ≤ j := ⟨m - 1, by omega, by omega⟩

/-! ### loops -/
section
variable {f : D → List Sl → Store → RS} {x : D} {xs : List D} {env : List Sl} {st : Store}
@[simp] theorem loopF_nil : loopF f [] env st = .nx env st := rfl
theorem loopF_cons : loopF f (x :: xs) env st = (f x env st).then fun e s => loopF f xs e s := rfl
/-- a loop that always goes on, by what it does with a state -/
theorem loopF_fold {α σ : Type} {enc : α → D} {E : σ → List Sl} {S : σ → Store} {step : σ → α → σ} {I : σ → Prop} : ∀ {xs : List α} {s : σ}, I s →
    (∀ s a, a ∈ xs → I s → f (enc a) (E s) (S s) = .nx (E (step s a)) (S (step s a)) ∧ I (step s a)) → loopF f (xs.map enc) (E s) (S s) = .nx (E (xs.foldl step s)) (S (xs.foldl step s)) ∧ I (xs.foldl step s)
  | [], s, hi, _ => ⟨rfl, hi⟩
  | a :: xs, s, hi, h => by
    obtain ⟨h1, h2⟩ := h s a List.mem_cons_self hi
    rw [List.map_cons, loopF_cons, h1, then_nx]
    exact loopF_fold h2 fun s b hb hi => h s b (List.mem_cons_of_mem _ hb) hi
/-- a loop that keeps something, and always goes on -/
theorem loopF_inv {I : List Sl → Store → Prop} : ∀ {xs : List D} {env : List Sl} {st : Store}, I env st → (∀ x ∈ xs, ∀ e s, I e s → ∃ e' s', f x e s = .nx e' s' ∧ I e' s') → ∃ e s, loopF f xs env st = .nx e s ∧ I e s
  | [], env, st, h, _ => ⟨env, st, rfl, h⟩
  | x :: xs, env, st, h, k => by
    obtain ⟨e', s', h1, h2⟩ := k x List.mem_cons_self env st h
    obtain ⟨e, s, h3, h4⟩ := loopF_inv h2 fun y hy => k y (List.mem_cons_of_mem _ hy)
    refine ⟨e, s, ?_, h4⟩
    rw [loopF_cons, h1, then_nx, h3]
end
theorem for_go {P : Pt} {G : Fns} {sup : Nat → Nat → Option Bool} {xf : Nat → List Nat} {X : Xh} {tg : Tg} {it : Ex} {b : List Sm} {env : List Sl} {st st1 : Store} {d : D} {xs : List D} (h : ev P G X it env st = .ok d st1) (hx : itemsD d = some xs) :
    ex P G sup xf X (.for_ tg it b) env st = loopF (fun y e s => liftS (asgT tg y e) fun e2 => exs P G sup xf X b e2 s) xs env st1 := by
  rw [ex_for_, h, st_ok, hx, liftS_ok]
/-- a for's turn; a while's test and turn -/
def forF (P : Pt) (G : Fns) (sup : Nat → Nat → Option Bool) (xf : Nat → List Nat) (X : Xh) (tg : Tg) (b : List Sm) : D → List Sl → Store → RS := fun y e s => liftS (asgT tg y e) fun e2 => exs P G sup xf X b e2 s
section
variable {P : Pt} {G : Fns} {sup : Nat → Nat → Option Bool} {xf : Nat → List Nat} {X : Xh} {tg : Tg} {it : Ex} {b : List Sm} {env : List Sl} {st : Store}
@[simp] theorem ex_forZ : ex P G sup xf X (.for_ tg it b) env st = (ev P G X it env st).st env fun x s => liftS (itemsD x) fun xs => loopF (forF P G sup xf X tg b) xs env s := ex_for_ tg it b
theorem forF_at (y : D) : forF P G sup xf X tg b y env st = liftS (asgT tg y env) fun e2 => exs P G sup xf X b e2 st := rfl
@[simp] theorem items_lst (xs : List D) : itemsD (.lst xs) = some xs := rfl
@[simp] theorem items_tup (xs : List D) : itemsD (.tup xs) = some xs := rfl
end
@[simp] theorem asgT_tp (is : List Nat) (ds : List D) (env : List Sl) : asgT (.tp is) (.tup ds) env = setAll env is ds := rfl
@[simp] theorem setAll_nil (env : List Sl) : setAll env [] [] = some env := rfl
@[simp] theorem setAll_cons (env : List Sl) (i : Nat) (is : List Nat) (d : D) (ds : List D) : setAll env (i :: is) (d :: ds) = (setSl env i (.d d)).bind fun e => setAll e is ds := rfl

/-! ### comprehensions -/
section
variable {P : Pt} {G : Fns} {X : Xh} {elt it ifs : Ex} {own : List Nat} {tg : Tg} {env : List Sl} {st : Store}
theorem loopC_map {α : Type} {f : D → Store → R (Option D)} {enc : α → D} (g : α → Option D) {st : Store} : ∀ {xs : List α}, (∀ a ∈ xs, f (enc a) st = .ok (g a) st) → loopC f (xs.map enc) st = .ok (xs.filterMap g) st
  | [], _ => rfl
  | a :: xs, h => by
    have ih := loopC_map g fun b hb => h b (List.mem_cons_of_mem _ hb)
    rw [List.map_cons]
    unfold loopC
    rw [h a List.mem_cons_self]
    dsimp only
    rw [ih, List.filterMap_cons]
    cases g a <;> rfl
/-- [elt for tg in it] -/
theorem cpr_map {α : Type} (enc : α → D) (g : α → D) {xs : List α} {d : D} (hi : brw env it st (ev P G X it env st) = .ok d st) (hx : itemsD d = some (xs.map enc)) (hl : xs.length < 16777216)
    (hg : ∀ a ∈ xs, ∃ env2, asgT tg (enc a) (wipeE env own) = some env2 ∧ ev P G X elt env2 st = .ok (g a) st) : ev P G X (.cpr elt own tg it .nil) env st = .ok (.lst (xs.map g)) st := by
  rw [ev_cpr, hi, bind_ok, hx]
  dsimp only
  rw [if_pos (show (xs.map enc).length < big by rw [List.length_map]; exact hl), loopC_map (fun a => some (g a)) fun a ha => ?_, bind_ok]
  · congr 2
    induction xs with
    | nil => rfl
    | cons a xs ih =>
      rw [List.filterMap_cons, List.map_cons]
      dsimp only
      congr 1
      clear hg hl hx ih
      induction xs with
      | nil => rfl
      | cons b xs ih => rw [List.filterMap_cons, List.map_cons, ih]
  · obtain ⟨env2, h1, h2⟩ := hg a ha
    rw [h1]
    dsimp only
    rw [bodyE_nil, h2, bind_ok]
/-- [elt for tg in it if ifs] -/
theorem cpr_filt {α : Type} (enc : α → D) (p : α → Bool) (g : α → D) {xs : List α} {d : D} (hi : brw env it st (ev P G X it env st) = .ok d st) (hx : itemsD d = some (xs.map enc)) (hl : xs.length < 16777216) (hn : ifs ≠ .nil)
    (hg : ∀ a ∈ xs, ∃ env2, asgT tg (enc a) (wipeE env own) = some env2 ∧ tst (ev P G X ifs env2 st) = .ok (p a) st ∧ (p a = true → ev P G X elt env2 st = .ok (g a) st)) : ev P G X (.cpr elt own tg it ifs) env st = .ok (.lst ((xs.filter p).map g)) st := by
  rw [ev_cpr, hi, bind_ok, hx]
  dsimp only
  have e2 : ifsE P G X ifs = fun env st => tst (ev P G X ifs env st) := by
    funext env st
    cases ifs <;> first | rfl | exact (hn rfl).elim
  rw [if_pos (show (xs.map enc).length < big by rw [List.length_map]; exact hl), loopC_map (fun a => if p a then some (g a) else none) fun a ha => ?_, bind_ok]
  · congr 2
    clear hg hl hx
    induction xs with
    | nil => rfl
    | cons a xs ih =>
      rw [List.filterMap_cons, List.filter_cons]
      cases hp : p a
      · simp [ih]
      · simp [ih]
  · obtain ⟨env2, h1, h2, h3⟩ := hg a ha
    rw [h1]
    dsimp only
    unfold bodyE
    rw [e2]
    dsimp only
    rw [h2, bind_ok]
    cases hp : p a with
    | false => rw [if_neg Bool.false_ne_true, if_neg Bool.false_ne_true]
    | true => rw [if_pos rfl, if_pos rfl, h3 hp, bind_ok]
end
/-! ### ranges -/
theorem rng_ev {P : Pt} {G : Fns} {X : Xh} {a b : Ex} {env : List Sl} {st s1 s2 : Store} {i j : Int} {d : D} (ha : ev P G X a env st = .ok (.int i) s1) (hb : ev P G X b env s1 = .ok (.int j) s2) (h : rngD i j = some d) : ev P G X (.rng a b) env st = .ok d s2 := by
  rw [evY_rng, ha, bind_ok, hb, bind_ok]
  dsimp only
  rw [h]
  rfl
theorem rngD_n (i : Int) (n : Nat) (h1 : -4611686018427387904 ≤ i) (h2 : i + n < 4611686018427387904) : rngD i (i + n) = some (.lst ((List.range n).map fun (k : Nat) => .int (i + k))) := by
  have hc : (decide (-(2 ^ 62) ≤ i) && decide (i < 2 ^ 62) && decide (-(2 ^ 62) ≤ i + (n : Int)) && decide (i + (n : Int) < 2 ^ 62)) = true := by
    simp only [Bool.and_eq_true, decide_eq_true_eq]
    omega
  have e : (i + (n : Int) - i).toNat = n := by omega
  unfold rngD
  split
  · exact congrArg (fun k : Nat => some (D.lst ((List.range k).map fun (j : Nat) => D.int (i + j)))) e
  · rename_i h
    exact (h hc).elim
theorem rngD_0 (n : Nat) (h : n < 4611686018427387904) : rngD 0 (n : Int) = some (.lst ((List.range n).map fun (k : Nat) => .int (k : Int))) := by
  have := rngD_n 0 n (by omega) (by omega)
  rw [Int.zero_add] at this
  have e : (fun k : Nat => D.int ((0 : Int) + (k : Int))) = fun k : Nat => D.int (k : Int) := funext fun k => congrArg D.int (Int.zero_add _)
  rw [e] at this
  exact this

/-- the first number of a range from which on something holds -/
theorem range_first (n : Nat) (x : Int) : ((List.range n).filter fun k : Nat => decide (x ≤ (k : Int))).head? = if x.toNat < n then some x.toNat else none := by
  induction n with
  | zero => simp
  | succ n ih =>
    rw [List.range_succ, List.filter_append, List.head?_append, ih]
    by_cases h : x.toNat < n
    · rw [if_pos h, if_pos (by omega)]; rfl
    · rw [if_neg h]
      by_cases h2 : x ≤ (n : Int)
      · rw [if_pos (by omega)]
        have : x.toNat = n := by omega
        simp [h2, this]
      · rw [if_neg (by omega)]
        simp [h2]
/-! ### slices -/
section
variable {xs : List D} {k : Nat}
theorem cut_from (k : Nat) : cutL xs (some (k : Int)) none = xs.drop k := by
  unfold cutL cutI
  rw [HT.sIx_nat, HT.sIx_none]
  by_cases h : k ≤ xs.length
  · rw [Nat.min_eq_left h, List.take_of_length_le (by rw [List.length_drop]; exact Nat.le_refl _)]
  · rw [Nat.min_eq_right (by omega), List.drop_of_length_le (Nat.le_refl _), List.drop_of_length_le (by omega)]
    simp
theorem cut_to (k : Nat) : cutL xs none (some (k : Int)) = xs.take k := by
  unfold cutL cutI
  rw [HT.sIx_nat, HT.sIx_none, List.drop_zero, Nat.sub_zero]
  by_cases h : k ≤ xs.length
  · rw [Nat.min_eq_left h]
  · rw [Nat.min_eq_right (by omega), List.take_of_length_le (Nat.le_refl _), List.take_of_length_le (by omega)]
theorem cut_mid (a b : Nat) : cutL xs (some (a : Int)) (some (b : Int)) = (xs.take b).drop a := by
  unfold cutL cutI
  rw [HT.sIx_nat, HT.sIx_nat, List.drop_take]
  by_cases h : a ≤ xs.length
  · rw [Nat.min_eq_left h]
    by_cases h2 : b ≤ xs.length
    · rw [Nat.min_eq_left h2]
    · rw [Nat.min_eq_right (by omega), List.take_of_length_le (by rw [List.length_drop]; omega), List.take_of_length_le (by rw [List.length_drop]; omega)]
  · have e : min a xs.length = xs.length := Nat.min_eq_right (by omega)
    rw [e, List.drop_of_length_le (Nat.le_refl xs.length), List.drop_of_length_le (show xs.length ≤ a by omega)]
    simp
theorem cut_last : cutL xs (some (-1)) none = xs.drop (xs.length - 1) := by
  unfold cutL cutI
  have e : HT.sIx xs.length 0 (some (-1)) = xs.length - 1 := by
    show (if (-1 : Int) < 0 then ((-1 : Int) + (xs.length : Int)).toNat else min (-1 : Int).toNat xs.length) = _
    rw [if_pos (by omega)]
    omega
  show (xs.drop (HT.sIx xs.length 0 (some (-1)))).take (xs.length - HT.sIx xs.length 0 (some (-1))) = _
  rw [e]
  exact List.take_of_length_le (by rw [List.length_drop]; exact Nat.le_refl _)
@[simp] theorem slc_tF : slcD (.tup xs) (some (k : Int)) none = some (.tup (xs.drop k)) := by show some (D.tup (cutL xs _ _)) = _; rw [cut_from]
@[simp] theorem slc_lF : slcD (.lst xs) (some (k : Int)) none = some (.lst (xs.drop k)) := by show some (D.lst (cutL xs _ _)) = _; rw [cut_from]
@[simp] theorem slc_tT : slcD (.tup xs) none (some (k : Int)) = some (.tup (xs.take k)) := by show some (D.tup (cutL xs _ _)) = _; rw [cut_to]
@[simp] theorem slc_lT : slcD (.lst xs) none (some (k : Int)) = some (.lst (xs.take k)) := by show some (D.lst (cutL xs _ _)) = _; rw [cut_to]
@[simp] theorem slc_tS : slcD (.tup xs) (some ((k : Int) + 1)) none = some (.tup (xs.drop (k + 1))) := slc_tF (k := k + 1)
@[simp] theorem slc_lS : slcD (.lst xs) (some ((k : Int) + 1)) none = some (.lst (xs.drop (k + 1))) := slc_lF (k := k + 1)
@[simp] theorem slc_tTS : slcD (.tup xs) none (some ((k : Int) + 1)) = some (.tup (xs.take (k + 1))) := slc_tT (k := k + 1)
@[simp] theorem slc_lTS : slcD (.lst xs) none (some ((k : Int) + 1)) = some (.lst (xs.take (k + 1))) := slc_lT (k := k + 1)
@[simp] theorem slc_t1 : slcD (.tup xs) (some 1) none = some (.tup (xs.drop 1)) := slc_tF (k := 1)
@[simp] theorem slc_l1 : slcD (.lst xs) (some 1) none = some (.lst (xs.drop 1)) := slc_lF (k := 1)
@[simp] theorem slc_tL : slcD (.tup xs) (some (-1)) none = some (.tup (xs.drop (xs.length - 1))) := by show some (D.tup (cutL xs _ _)) = _; rw [cut_last]
@[simp] theorem slc_lL : slcD (.lst xs) (some (-1)) none = some (.lst (xs.drop (xs.length - 1))) := by show some (D.lst (cutL xs _ _)) = _; rw [cut_last]
end
/-- the last item -/
theorem atI_last' {α : Type} (xs : List α) (x : α) : L2.atI (xs ++ [x]) (-1) = some x := by
  unfold L2.atI L2.ixN
  rw [if_neg (by omega), if_pos (by rw [List.length_append, List.length_singleton]; omega)]
  simp only [Option.bind_some, List.length_append, List.length_singleton]
  have e : ((-1 : Int) + ((xs.length + 1 : Nat) : Int)).toNat = xs.length := by omega
  rw [e]
  simp
theorem atI_mid {α : Type} (xs ys : List α) (x : α) : L2.atI (xs ++ x :: ys) (xs.length : Int) = some x := by
  rw [atI_nat]
  simp
/-! ### data -/
theorem intsD_map (ns : List Int) : intsD (ns.map D.int) = some ns := by
  induction ns with
  | nil => rfl
  | cons n r ih => rw [List.map_cons]; show (intsD (r.map D.int)).map (n :: ·) = _; rw [ih]; rfl
@[simp] theorem sumD_lst (ns : List Int) : sumD [.lst (ns.map D.int)] = some (.int ns.sum) := by show (intsD _).map _ = _; rw [intsD_map]; rfl
@[simp] theorem sumD_tup (ns : List Int) : sumD [.tup (ns.map D.int)] = some (.int ns.sum) := by show (intsD _).map _ = _; rw [intsD_map]; rfl
@[simp] theorem maxD_2 (i j : Int) : maxD [.int i, .int j] = some (.int (max i j)) := by
  show some (D.int (if j > i then j else i)) = _
  congr 2
  split <;> omega
@[simp] theorem minD_2 (i j : Int) : minD [.int i, .int j] = some (.int (min i j)) := by
  show some (D.int (if j < i then j else i)) = _
  congr 2
  split <;> omega
/-- what isinstance may be asked of -/
def datD : D → Bool
  | .fn _ => false
  | .loc _ => false
  | .obj _ _ => false
  | _ => true
def isIntD : D → Bool
  | .int _ => true
  | _ => false
/-- a number from a to b -/
def numB (d : D) (a b : Int) : Bool := match d with
  | .int i => decide (a ≤ i) && decide (i ≤ b)
  | _ => false
def rowB : D → Bool
  | .lst _ => true
  | .tup _ => true
  | _ => false
section
variable {Q : Pg} {m : Nat} {st : Store} {d : D}
def irWhole : List Sm := [.ret (.and (.isi (.var 0) [.int]) (.one (.not (.isi (.var 0) [.bool]))))]
theorem whole_ok {W : Nat} (h : Q.fns W = some ⟨1, 1, irWhole⟩) (hm : 1 ≤ m) (hd : datD d = true) : (run Q m).call W [d] st = .ok (.bl (isIntD d)) st := by
  obtain ⟨j, rfl, _⟩ := lv hm
  rw [call_fd h rfl]
  show fin (exs Q.pt (run Q j) Q.sup Q.xf none irWhole [.d d] st) = _
  unfold irWhole
  cases d <;> first | (cases hd; done) | simp [isT1, isIntD]
def irRow : List Sm := [.ret (.isi (.var 0) [.list, .tuple])]
theorem row_ok {W : Nat} (h : Q.fns W = some ⟨1, 1, irRow⟩) (hm : 1 ≤ m) (hd : datD d = true) : (run Q m).call W [d] st = .ok (.bl (rowB d)) st := by
  obtain ⟨j, rfl, _⟩ := lv hm
  rw [call_fd h rfl]
  show fin (exs Q.pt (run Q j) Q.sup Q.xf none irRow [.d d] st) = _
  unfold irRow
  cases d <;> first | (cases hd; done) | simp [isT1, rowB]
def irNumber (W : Nat) : List Sm := [.ret (.and (.call W [.var 0]) (.one (.chn .le .le (.var 1) (.var 0) (.var 2))))]
theorem number_ok {W N : Nat} (hW : Q.fns W = some ⟨1, 1, irWhole⟩) (hN : Q.fns N = some ⟨3, 3, irNumber W⟩) (hm : 2 ≤ m) (a b : Int) (hd : datD d = true) : (run Q m).call N [d, .int a, .int b] st = .ok (.bl (numB d a b)) st := by
  obtain ⟨j, rfl, hj⟩ := lv hm
  rw [call_fd hN rfl]
  show fin (exs Q.pt (run Q j) Q.sup Q.xf none (irNumber W) [.d d, .d (.int a), .d (.int b)] st) = _
  unfold irNumber
  have h1 := whole_ok (st := st) hW hj hd
  cases d with
  | int i =>
    by_cases h2 : a ≤ i
    · simp [h1, isIntD, numB, h2]
    · simp [h1, isIntD, numB, h2]
  | fn _ => cases hd
  | loc _ => cases hd
  | obj _ _ => cases hd
  | _ => simp [h1, isIntD, numB]
def irWantNumber (N e : Nat) : List Sm := [.iff (.not (.call N [.var 0, .var 1, .var 2])) [.rai e [.var 0]] [],
  .ret (.var 0)]
theorem wantNumber_ok {W N V e k : Nat} (hW : Q.fns W = some ⟨1, 1, irWhole⟩) (hN : Q.fns N = some ⟨3, 3, irNumber W⟩) (hV : Q.fns V = some ⟨3, 3, irWantNumber N e⟩) (he : Q.xf e = [k]) (hm : 3 ≤ m) (a b : Int) (hd : datD d = true) :
    (run Q m).call V [d, .int a, .int b] st = if numB d a b then .ok d st else .exc e [d] st := by
  obtain ⟨j, rfl, hj⟩ := lv hm
  rw [call_fd hV rfl]
  show fin (exs Q.pt (run Q j) Q.sup Q.xf none (irWantNumber N e) [.d d, .d (.int a), .d (.int b)] st) = _
  unfold irWantNumber
  have h1 := number_ok (st := st) hW hN hj a b hd
  cases h2 : numB d a b
  · simp [h1, h2, he]
  · simp [h1, h2]
/-! ### draws -/
/-- the state of the draws -/
structure Dw where
  ns : List Int
  i : Int
  s : Int
  r : Int
def Dw.cell (ρ : Dw) : Cell := .lst [.lst (ρ.ns.map D.int), .int ρ.i, .int ρ.s, .int ρ.r]
def Dw.ok (ρ : Dw) : Prop := 0 ≤ ρ.i
/-- a run that draws, and ends with a value -/
def Drawn (r : R D) (T : D → Prop) : Prop := ∃ d ρ, r = .ok d [Dw.cell ρ] ∧ ρ.ok ∧ T d
def irTaken : List Sm := [.iff (.cmp .gt (.idx (.var 0) (.lit (.int 3))) (.lit (.int 0))) [.asg (.nm 2) (.bin .mod (.bf .int [.idx (.var 0) (.lit (.int 3))]) (.var 1)),
.sti 0 (.lit (.int 3)) (.bin .fdv (.idx (.var 0) (.lit (.int 3))) (.var 1)),
.ret (.var 2)] [],
  .sti 0 (.lit (.int 1)) (.bin .add (.idx (.var 0) (.lit (.int 1))) (.lit (.int 1))),
  .iff (.cmp .gt (.idx (.var 0) (.lit (.int 1))) (.bf .len [.idx (.var 0) (.lit (.int 0))])) [.sti 0 (.lit (.int 2)) (.bin .mod (.bf .int [.bin .add (.bin .mul (.idx (.var 0) (.lit (.int 2))) (.lit (.int 48271))) (.lit (.int 11))]) (.lit (.int 2147483647))),
.ret (.bin .mod (.bf .int [.bin .fdv (.idx (.var 0) (.lit (.int 2))) (.lit (.int 7))]) (.var 1))] [],
  .asg (.nm 3) (.idx (.idx (.var 0) (.lit (.int 0))) (.bin .sub (.idx (.var 0) (.lit (.int 1))) (.lit (.int 1)))),
  .sti 0 (.lit (.int 2)) (.bin .mod (.bf .int [.bin .add (.bin .add (.bin .mul (.idx (.var 0) (.lit (.int 2))) (.lit (.int 48271))) (.var 3)) (.lit (.int 11))]) (.lit (.int 2147483647))),
  .iff (.cmp .ge (.var 3) (.bin .pow (.lit (.int 10)) (.lit (.int 18)))) [.sti 0 (.lit (.int 3)) (.bin .fdv (.var 3) (.var 1))] [],
  .ret (.bin .mod (.bf .int [.var 3]) (.var 1))]
theorem pow18 : powD (.int 10) (.int 18) = some (.int 1000000000000000000) := rfl
theorem ix43 : L2.ixN 4 3 = some 3 := by decide
theorem ix42 : L2.ixN 4 2 = some 2 := by decide
theorem ix41 : L2.ixN 4 1 = some 1 := by decide
theorem taken_ok {T : Nat} (hT : Q.fns T = some ⟨2, 4, irTaken⟩) (hm : 1 ≤ m) (ρ : Dw) (hρ : ρ.ok) (many : Int) (h1 : 0 < many) (h2 : many < 1073741824) :
    ∃ x ρ', (run Q m).call T [.loc 0, .int many] [ρ.cell] = .ok (.int x) [Dw.cell ρ'] ∧ ρ'.ok ∧ 0 ≤ x ∧ x < many := by
  obtain ⟨n, rfl, _⟩ := lv hm
  obtain ⟨ns, i, s, r⟩ := ρ
  have hi : 0 ≤ i := hρ
  have hmod : ∀ y : Int, 0 ≤ y % many ∧ y % many < many := fun y => ⟨Int.emod_nonneg _ (by omega), Int.emod_lt_of_pos _ h1⟩
  rw [call_fd hT rfl]
  show ∃ x ρ', fin (exs Q.pt (run Q n) Q.sup Q.xf none irTaken [.d (.loc 0), .d (.int many), .no, .no] [.lst [.lst (ns.map D.int), .int i, .int s, .int r]]) = .ok (.int x) [Dw.cell ρ'] ∧ _
  unfold irTaken
  by_cases hr : 0 < r
  · refine ⟨r % many, ⟨ns, i, s, r / many⟩, ?_, hi, (hmod _).1, (hmod _).2⟩
    simp [Dw.cell, hr, modD_int _ _ h1, fdvD_int _ _ (And.intro h1 h2), setSl, slA, chg, ix43]
  · by_cases hl : (ns.length : Int) < i + 1
    · refine ⟨_, ⟨ns, i + 1, (s * 48271 + 11) % 2147483647, r⟩, ?_, by show 0 ≤ i + 1; omega, (hmod ((s * 48271 + 11) % 2147483647 / 7)).1, (hmod _).2⟩
      simp [Dw.cell, hr, hl, modD_int _ _ h1, setSl, slA, chg, ix41, ix42, mulD_r s 48271 (by omega), modD_int _ 2147483647 (by omega), fdvD_int _ 7 (by omega)]
    · obtain ⟨j, rfl⟩ : ∃ j : Nat, i = j := ⟨i.toNat, by omega⟩
      have hj : j < ns.length := by omega
      have ecell : L2.atI (ns.map D.int) (j : Int) = some (.int ns[j]) := by rw [atI_nat]; simp [hj]
      have hl' : ¬ (ns.length : Int) < (j : Int) + 1 := hl
      by_cases hc : 1000000000000000000 ≤ ns[j]
      · refine ⟨_, ⟨ns, (j : Int) + 1, (s * 48271 + ns[j] + 11) % 2147483647, ns[j] / many⟩, ?_, by show 0 ≤ (j : Int) + 1; omega, (hmod ns[j]).1, (hmod _).2⟩
        simp [Dw.cell, hr, hl', modD_int _ _ h1, setSl, slA, chg, ix41, ix42, ix43, mulD_r s 48271 (by omega), modD_int _ 2147483647 (by omega), ecell, pow18, hc, fdvD_int _ _ (And.intro h1 h2)]
      · refine ⟨_, ⟨ns, (j : Int) + 1, (s * 48271 + ns[j] + 11) % 2147483647, r⟩, ?_, by show 0 ≤ (j : Int) + 1; omega, (hmod ns[j]).1, (hmod _).2⟩
        simp [Dw.cell, hr, hl', modD_int _ _ h1, setSl, slA, chg, ix41, ix42, mulD_r s 48271 (by omega), modD_int _ 2147483647 (by omega), ecell, pow18, hc]
def irPick (T : Nat) : List Sm := [.ret (.idx (.var 1) (.call T [.var 0, .bf .len [.var 1]]))]
theorem pick_ok {T V : Nat} (hT : Q.fns T = some ⟨2, 4, irTaken⟩) (hV : Q.fns V = some ⟨2, 2, irPick T⟩) (hm : 2 ≤ m) (ρ : Dw) (hρ : ρ.ok) (ks : List D) (h1 : 0 < ks.length) (h2 : ks.length < 1073741824) :
    ∃ x ρ', (run Q m).call V [.loc 0, .lst ks] [ρ.cell] = .ok x [Dw.cell ρ'] ∧ ρ'.ok ∧ x ∈ ks := by
  obtain ⟨n, rfl, hn⟩ := lv hm
  obtain ⟨x, ρ', e, h3, h4, h5⟩ := taken_ok hT hn ρ hρ ks.length (by omega) (by omega)
  rw [call_fd hV rfl]
  show ∃ x ρ', fin (exs Q.pt (run Q n) Q.sup Q.xf none (irPick T) [.d (.loc 0), .d (.lst ks)] [ρ.cell]) = .ok x [Dw.cell ρ'] ∧ _
  unfold irPick
  obtain ⟨j, rfl⟩ : ∃ j : Nat, x = j := ⟨x.toNat, by omega⟩
  have hj : j < ks.length := by omega
  refine ⟨ks[j], ρ', ?_, h3, List.getElem_mem hj⟩
  have ecell : L2.atI ks (j : Int) = some ks[j] := by rw [atI_nat]; simp [hj]
  simp [e, ecell]
def irMixed (T : Nat) : List Sm := [.iff (.cmp .eq (.call T [.var 0, .lit (.int 2)]) (.lit (.int 0))) [.ret (.bf .list [.var 1])] [],
  .ret (.bf .tuple [.var 1])]
theorem mixed_ok {T V : Nat} (hT : Q.fns T = some ⟨2, 4, irTaken⟩) (hV : Q.fns V = some ⟨2, 2, irMixed T⟩) (hm : 2 ≤ m) (ρ : Dw) (hρ : ρ.ok) (xs : List D) (d : D) (hd : d = .lst xs ∨ d = .tup xs) :
    ∃ x ρ', (run Q m).call V [.loc 0, d] [ρ.cell] = .ok x [Dw.cell ρ'] ∧ ρ'.ok ∧ (x = .lst xs ∨ x = .tup xs) := by
  obtain ⟨n, rfl, hn⟩ := lv hm
  obtain ⟨x, ρ', e, h3, h4, h5⟩ := taken_ok hT hn ρ hρ 2 (by omega) (by omega)
  rw [call_fd hV rfl]
  show ∃ x ρ', fin (exs Q.pt (run Q n) Q.sup Q.xf none (irMixed T) [.d (.loc 0), .d d] [ρ.cell]) = .ok x [Dw.cell ρ'] ∧ _
  unfold irMixed
  by_cases hx : x = 0
  · subst hx
    refine ⟨.lst xs, ρ', ?_, h3, .inl rfl⟩
    rcases hd with rfl | rfl <;> simp [e]
  · refine ⟨.tup xs, ρ', ?_, h3, .inr rfl⟩
    rcases hd with rfl | rfl <;> simp [e, hx]
end
/-! ### alike -/
def irAlike (A : Nat) : List Sm := [.iff (.isi (.var 1) [.tuple, .list]) [.iff (.or (.not (.isi (.var 0) [.tuple, .list])) (.one (.cmp .ne (.isi (.var 0) [.list]) (.isi (.var 1) [.list])))) [.ret (.lit (.bl false))] [],
.iff (.cmp .ne (.bf .len [.var 0]) (.bf .len [.var 1])) [.ret (.lit (.bl false))] [],
.ret (.cmp .eq (.cpr (.var 2) [2] (.nm 2) (.rng (.lit (.int 0)) (.bf .len [.var 1])) (.not (.call A [.idx (.var 0) (.var 2), .idx (.var 1) (.var 2)]))) (.lst []))] [],
  .iff (.or (.cmp .is_ (.var 1) (.lit .non)) (.one (.isi (.var 1) [.str]))) [.ret (.and (.cmp .eq (.var 0) (.var 1)) (.one (.cmp .eq (.isi (.var 0) [.str]) (.isi (.var 1) [.str]))))] [],
  .ret (.and (.isi (.var 0) [.int]) (.and (.cmp .eq (.isi (.var 0) [.bool]) (.isi (.var 1) [.bool])) (.one (.cmp .eq (.var 0) (.var 1)))))]
/-- plain data, at most so deep -/
def alD : Nat → D → Bool
  | 0, _ => false
  | n + 1, .tup xs => decide (xs.length < 1000) && xs.all (alD n)
  | n + 1, .lst xs => decide (xs.length < 1000) && xs.all (alD n)
  | _ + 1, .int _ => true
  | _ + 1, .bl _ => true
  | _ + 1, .non => true
  | _ + 1, .str s => SeqAt.shaped (.str s)
  | _ + 1, _ => false
@[simp] theorem eqD_bl (a b : Bool) : eqD (.bl a) (.bl b) = some (a == b) := by cases a <;> cases b <;> rfl
theorem eqD_str (s : Str) (h : SeqAt.shaped (.str s) = true) : eqD (.str s) (.str s) = some true := by
  show (if SeqAt.shaped (.str s) && SeqAt.shaped (.str s) then some (PyData.eqv (.str s) (.str s)) else none) = _
  rw [h]
  simp [PyData.eqv]
theorem eqD_nils : eqD (.lst []) (.lst []) = some true := rfl
section
variable {Q : Pg} {m : Nat} {st : Store}
theorem alike_seq {A : Nat} (hA : Q.fns A = some ⟨2, 3, irAlike A⟩) {n : Nat} (xs : List D) (hl : xs.length < 1000) (d : D) (hd : d = .tup xs ∨ d = .lst xs) (h : ∀ x ∈ xs, (run Q n).call A [x, x] st = .ok (.bl true) st) : (run Q (n + 1)).call A [d, d] st = .ok (.bl true) st := by
  rw [call_fd hA rfl]
  show fin (exs Q.pt (run Q n) Q.sup Q.xf none (irAlike A) [.d d, .d d, .no] st) = _
  have e : ev Q.pt (run Q n) none (.cpr (.var 2) [2] (.nm 2) (.rng (.lit (.int 0)) (.bf .len [.var 1])) (.not (.call A [.idx (.var 0) (.var 2), .idx (.var 1) (.var 2)]))) [.d d, .d d, .no] st = .ok (.lst []) st := by
    have hr : brw [.d d, .d d, .no] (.rng (.lit (.int 0)) (.bf .len [.var 1])) st (ev Q.pt (run Q n) none (.rng (.lit (.int 0)) (.bf .len [.var 1])) [.d d, .d d, .no] st) = .ok (.lst ((List.range xs.length).map fun (k : Nat) => .int (k : Int))) st := by
      have h0 := rngD_0 xs.length (Nat.lt_trans hl (by decide))
      rw [brwY_rng]
      exact rng_ev (i := 0) (j := xs.length) (s1 := st) (evY_lit _) (by rcases hd with rfl | rfl <;> simp) h0
    have hlen : (List.range xs.length).length < 16777216 := by
      rw [List.length_range]
      exact Nat.lt_trans hl (by decide)
    have key := cpr_filt (P := Q.pt) (G := run Q n) (X := none) (elt := .var 2) (own := [2]) (tg := .nm 2) (ifs := .not (.call A [.idx (.var 0) (.var 2), .idx (.var 1) (.var 2)])) (fun k : Nat => D.int (k : Int)) (fun _ => false) (fun _ => D.non) (xs := List.range xs.length) hr rfl hlen (by intro z; cases z) fun k hk => ?_
    · rw [key]
      simp
    · have hk' : k < xs.length := by simpa using hk
      have e1 : L2.atI xs (k : Int) = some xs[k] := by rw [atI_nat]; simp [hk']
      have e2 := h xs[k] (List.getElem_mem hk')
      refine ⟨[.d d, .d d, .d (.int (k : Int))], by simp [wipeE, setSl], ?_, fun z => by cases z⟩
      rcases hd with rfl | rfl <;> simp [e1, e2]
  have a0 : tst (ev Q.pt (run Q n) none (.isi (.var 1) [.tuple, .list]) [.d d, .d d, .no] st) = .ok true st := by rcases hd with rfl | rfl <;> simp [isT1]
  have a1 : tst (ev Q.pt (run Q n) none (.or (.not (.isi (.var 0) [.tuple, .list])) (.one (.cmp .ne (.isi (.var 0) [.list]) (.isi (.var 1) [.list])))) [.d d, .d d, .no] st) = .ok false st := by rcases hd with rfl | rfl <;> simp [isT1]
  have a2 : tst (ev Q.pt (run Q n) none (.cmp .ne (.bf .len [.var 0]) (.bf .len [.var 1])) [.d d, .d d, .no] st) = .ok false st := by rcases hd with rfl | rfl <;> simp
  have a3 : ev Q.pt (run Q n) none (.cmp .eq (.cpr (.var 2) [2] (.nm 2) (.rng (.lit (.int 0)) (.bf .len [.var 1])) (.not (.call A [.idx (.var 0) (.var 2), .idx (.var 1) (.var 2)]))) (.lst [])) [.d d, .d d, .no] st = .ok (.bl true) st := by
    have e4 : ev Q.pt (run Q n) none (.lst []) [.d d, .d d, .no] st = .ok (.lst []) st := by simp
    rw [evY_cmp, brwY_cpr, e, bind_ok, brwY_lst, e4, bind_ok]
    rfl
  unfold irAlike
  rw [exs_cons, ex_iff, a0, st_ok, if_pos rfl, exs_cons, ex_iff, a1, st_ok, if_neg Bool.false_ne_true, exs_nil, then_nx, exs_cons, ex_iff, a2, st_ok, if_neg Bool.false_ne_true, exs_nil, then_nx, exs_cons, ex_ret, brwY_cmp, a3]
  rfl
theorem alike_refl {A : Nat} (hA : Q.fns A = some ⟨2, 3, irAlike A⟩) : ∀ (k : Nat) (m : Nat) (d : D), alD k d = true → k ≤ m → (run Q m).call A [d, d] st = .ok (.bl true) st
  | 0, _, _, h, _ => by cases h
  | k + 1, m, d, h, hm => by
    obtain ⟨j, rfl, hj⟩ := lv hm
    cases d with
    | tup xs =>
      simp only [alD, Bool.and_eq_true, decide_eq_true_eq, List.all_eq_true] at h
      exact alike_seq hA xs h.1 _ (.inl rfl) fun x hx => alike_refl hA k j x (h.2 x hx) hj
    | lst xs =>
      simp only [alD, Bool.and_eq_true, decide_eq_true_eq, List.all_eq_true] at h
      exact alike_seq hA xs h.1 _ (.inr rfl) fun x hx => alike_refl hA k j x (h.2 x hx) hj
    | int i =>
      rw [call_fd hA rfl]
      show fin (exs Q.pt (run Q j) Q.sup Q.xf none (irAlike A) [.d (.int i), .d (.int i), .no] st) = _
      unfold irAlike
      simp [isT1]
    | bl i =>
      rw [call_fd hA rfl]
      show fin (exs Q.pt (run Q j) Q.sup Q.xf none (irAlike A) [.d (.bl i), .d (.bl i), .no] st) = _
      unfold irAlike
      simp [isT1]
    | non =>
      rw [call_fd hA rfl]
      show fin (exs Q.pt (run Q j) Q.sup Q.xf none (irAlike A) [.d .non, .d .non, .no] st) = _
      unfold irAlike
      have e : eqD .non .non = some true := rfl
      simp [isT1, e]
    | str s =>
      have hs : SeqAt.shaped (.str s) = true := h
      rw [call_fd hA rfl]
      show fin (exs Q.pt (run Q j) Q.sup Q.xf none (irAlike A) [.d (.str s), .d (.str s), .no] st) = _
      unfold irAlike
      simp [isT1, eqD_str s hs]
    | obj _ _ => cases h
    | fn _ => cases h
    | loc _ => cases h
def irTruth : List Sm := [.ret (.and (.isi (.var 0) [.bool]) (.one (.cmp .eq (.var 0) (.var 1))))]
theorem truth_ok {V : Nat} (hV : Q.fns V = some ⟨2, 2, irTruth⟩) (hm : 1 ≤ m) (a b : Bool) : (run Q m).call V [.bl a, .bl b] st = .ok (.bl (a == b)) st := by
  obtain ⟨j, rfl, hj⟩ := lv hm
  rw [call_fd hV rfl]
  show fin (exs Q.pt (run Q j) Q.sup Q.xf none irTruth [.d (.bl a), .d (.bl b)] st) = _
  unfold irTruth
  simp [isT1]
/-- what was raised is what is due -/
def irRefRow (W : Nat) : List Sm := [.ret (.and (.cmp .eq (.var 0) (.var 1)) (.one (.cmp .eq (.call W [.idx (.var 0) (.lit (.int 1))]) (.call W [.idx (.var 1) (.lit (.int 1))]))))]
theorem refRow_ok {W V : Nat} (hW : Q.fns W = some ⟨1, 1, irWhole⟩) (hV : Q.fns V = some ⟨2, 2, irRefRow W⟩) (hm : 2 ≤ m) (a b : D) (hb : datD b = true) (he : eqD (.tup [a, b]) (.tup [a, b]) = some true) : (run Q m).call V [.tup [a, b], .tup [a, b]] st = .ok (.bl true) st := by
  obtain ⟨j, rfl, hj⟩ := lv hm
  rw [call_fd hV rfl]
  show fin (exs Q.pt (run Q j) Q.sup Q.xf none (irRefRow W) [.d (.tup [a, b]), .d (.tup [a, b])] st) = _
  unfold irRefRow
  have h1 := whole_ok (st := st) hW hj hb
  simp [he, h1]
end
/-! ### slots, exceptions -/
/-- a slot with a value, or none -/
def osl : Option D → Sl
  | none => .no
  | some d => .d d
def unx1 : Sl → Sl
  | .xc => .no
  | s => s
theorem unx_eq (env : List Sl) : unx env = env.map unx1 := by
  unfold unx unx1
  congr 1
@[simp] theorem unx1_d (d : D) : unx1 (.d d) = .d d := rfl
@[simp] theorem unx1_no : unx1 .no = .no := rfl
@[simp] theorem unx1_xc : unx1 .xc = .no := rfl
@[simp] theorem unx1_ow (c : Cell) : unx1 (.ow c) = .ow c := rfl
@[simp] theorem unx1_osl (o : Option D) : unx1 (osl o) = osl o := by cases o <;> rfl
/-- a try whose body raises what is caught, and whose suite goes on -/
theorem try_catch {P : Pt} {G : Fns} {sup : Nat → Nat → Option Bool} {xf : Nat → List Nat} {X : Xh} {b u : List Sm} {c c' i : Nat} {fs : List D} {env env2 : List Sl} {st st2 : Store} {r : RS} (h1 : exs P G sup xf X b env st = .exc c' fs env2 st2) (h2 : sup c' c = some true)
    (h3 : exs P G sup xf (some (c', (xf c').zip fs)) u ((unx env2).set i .xc) st2 = r) : ex P G sup xf X (.try_ b c (some i) u) env st = r.end_ i := by
  rw [ex_try_, h1]
  dsimp only
  rw [h2]
  dsimp only
  rw [h3]
theorem try_pass {P : Pt} {G : Fns} {sup : Nat → Nat → Option Bool} {xf : Nat → List Nat} {X : Xh} {b u : List Sm} {c : Nat} {n : Option Nat} {env : List Sl} {st : Store} {r : RS} (h1 : exs P G sup xf X b env st = r) (h2 : ∀ c fs e s, r ≠ .exc c fs e s) : ex P G sup xf X (.try_ b c n u) env st = r := by
  rw [ex_try_, h1]
  cases r with
  | exc c fs e s => exact (h2 c fs e s rfl).elim
  | _ => rfl
@[simp] theorem end_nx (i : Nat) (e : List Sl) (s : Store) : (RS.nx e s).end_ i = .nx ((unx e).set i .no) s := rfl
@[simp] theorem end_rt (i : Nat) (d : D) (s : Store) : (RS.rt d s).end_ i = .rt d s := rfl
end Iv

set_option Elab.async false
set_option linter.all false
set_option maxRecDepth 100000
set_option maxHeartbeats 4000000
namespace Iv
open PySem
theorem add_tt (xs ys : List D) (h : xs.length + ys.length < 100000) : addD (.tup xs) (.tup ys) = some (.tup (xs ++ ys)) := by
  show (if fits (xs.length + ys.length) then some (D.tup (xs ++ ys)) else none) = _
  unfold fits big
  rw [decide_eq_true (by omega)]
  rfl
theorem add_ll (xs ys : List D) (h : xs.length + ys.length < 100000) : addD (.lst xs) (.lst ys) = some (.lst (xs ++ ys)) := by
  show (if fits (xs.length + ys.length) then some (D.lst (xs ++ ys)) else none) = _
  unfold fits big
  rw [decide_eq_true (by omega)]
  rfl
theorem rep_flat (x : D) (n : Nat) : (List.replicate n [x]).flatten = List.replicate n x := by
  induction n with
  | zero => rfl
  | succ n ih => rw [List.replicate_succ, List.flatten_cons, ih]; rfl
theorem mul_l1 (x : D) (n : Nat) (h : n < 100000) : mulD (.lst [x]) (.int (n : Int)) = some (.lst (List.replicate n x)) := by
  have hc : (decide (-(2 ^ 63) ≤ (n : Int)) && decide ((n : Int) < 2 ^ 63) && fits ([x].length * (n : Int).toNat)) = true := by
    unfold fits big
    simp only [Bool.and_eq_true, decide_eq_true_eq, List.length_singleton]
    omega
  unfold mulD
  dsimp only
  split
  · rw [Int.toNat_natCast, rep_flat]
  · rename_i h
    exact (h hc).elim
theorem len_tmap {α : Type} (f : α → D) (xs : List α) : lenD [.tup (xs.map f)] = some (.int (xs.length : Int)) := by
  show some (D.int ((xs.map f).length : Int)) = _
  rw [List.length_map]
theorem len_lmap {α : Type} (f : α → D) (xs : List α) : lenD [.lst (xs.map f)] = some (.int (xs.length : Int)) := by
  show some (D.int ((xs.map f).length : Int)) = _
  rw [List.length_map]
/-- an item by its place -/
theorem at_map {α : Type} (f : α → D) (xs : List α) (k : Nat) (h : k < xs.length) : L2.atI (xs.map f) (k : Int) = some (f xs[k]) := by
  rw [atI_nat]
  simp [h]
theorem at_get {α : Type} (xs : List α) (k : Nat) (h : k < xs.length) : L2.atI xs (k : Int) = some xs[k] := by
  rw [atI_nat]
  simp [h]
theorem at_mapM {α : Type} (f : α → D) (pre suf : List α) (x : α) : L2.atI ((pre ++ x :: suf).map f) (pre.length : Int) = some (f x) := by
  rw [atI_nat]
  simp
theorem drop_mapM {α : Type} (f : α → D) (pre suf : List α) (x : α) : ((pre ++ x :: suf).map f).drop (pre.length + 1) = suf.map f := by
  rw [← List.map_drop]
  congr 1
  rw [show pre ++ x :: suf = (pre ++ [x]) ++ suf by simp]
  exact List.drop_left' (by simp)
theorem take_mapM {α : Type} (f : α → D) (pre suf : List α) (x : α) : ((pre ++ x :: suf).map f).take pre.length = pre.map f := by
  rw [← List.map_take]
  congr 1
  exact List.take_left' rfl
theorem splitM {α : Type} (ts : List α) (k : Nat) (h : k < ts.length) : ∃ pre t suf, ts = pre ++ t :: suf ∧ pre.length = k :=
  ⟨ts.take k, ts[k], ts.drop (k + 1), by rw [List.getElem_cons_drop, List.take_append_drop], by rw [List.length_take]; omega⟩
section
variable {P : Pt} {G : Fns} {X : Xh} {elt ifs : Ex} {own : List Nat} {tg : Tg} {env : List Sl} {st : Store} {a b : Ex}
theorem brw_ok {it : Ex} {d : D} {s : Store} (h : ∀ i, it ≠ .var i) (r : R D) : brw env it st r = r := by
  unfold brw
  split
  · rename_i i; exact (h i rfl).elim
  · rfl
/-- [elt for k in range(i, i + n) if ifs] -/
theorem cpr_rngF (i : Int) (n : Nat) (p : Nat → Bool) (g : Nat → D) (ha : ev P G X a env st = .ok (.int i) st) (hb : ev P G X b env st = .ok (.int (i + n)) st) (hi : -1000000 < i) (hi2 : i < 1000000) (hn : n < 1000000) (hne : ifs ≠ .nil)
    (hg : ∀ k, k < n → ∃ env2, asgT tg (.int (i + k)) (wipeE env own) = some env2 ∧ tst (ev P G X ifs env2 st) = .ok (p k) st ∧ (p k = true → ev P G X elt env2 st = .ok (g k) st)) :
    ev P G X (.cpr elt own tg (.rng a b) ifs) env st = .ok (.lst (((List.range n).filter p).map g)) st := by
  have hr : brw env (.rng a b) st (ev P G X (.rng a b) env st) = .ok (.lst ((List.range n).map fun (k : Nat) => .int (i + k))) st := by
    have h0 := rngD_n i n (by omega) (by omega)
    rw [brwY_rng]
    exact rng_ev ha hb h0
  have hlen : (List.range n).length < 16777216 := by rw [List.length_range]; omega
  exact cpr_filt (fun k : Nat => D.int (i + k)) p g hr rfl hlen hne fun k hk => hg k (List.mem_range.mp hk)
theorem cpr_rngM (i : Int) (n : Nat) (g : Nat → D) (ha : ev P G X a env st = .ok (.int i) st) (hb : ev P G X b env st = .ok (.int (i + n)) st) (hi : -1000000 < i) (hi2 : i < 1000000) (hn : n < 1000000)
    (hg : ∀ k, k < n → ∃ env2, asgT tg (.int (i + k)) (wipeE env own) = some env2 ∧ ev P G X elt env2 st = .ok (g k) st) :
    ev P G X (.cpr elt own tg (.rng a b) .nil) env st = .ok (.lst ((List.range n).map g)) st := by
  have hr : brw env (.rng a b) st (ev P G X (.rng a b) env st) = .ok (.lst ((List.range n).map fun (k : Nat) => .int (i + k))) st := by
    have h0 := rngD_n i n (by omega) (by omega)
    rw [brwY_rng]
    exact rng_ev ha hb h0
  have hlen : (List.range n).length < 16777216 := by rw [List.length_range]; omega
  exact cpr_map (fun k : Nat => D.int (i + k)) g hr rfl hlen fun k hk => hg k (List.mem_range.mp hk)
/-- the same, from 0 -/
theorem cpr_rng0F (n : Nat) (p : Nat → Bool) (g : Nat → D) (ha : ev P G X a env st = .ok (.int 0) st) (hb : ev P G X b env st = .ok (.int n) st) (hn : n < 1000000) (hne : ifs ≠ .nil)
    (hg : ∀ k, k < n → ∃ env2, asgT tg (.int (k : Int)) (wipeE env own) = some env2 ∧ tst (ev P G X ifs env2 st) = .ok (p k) st ∧ (p k = true → ev P G X elt env2 st = .ok (g k) st)) :
    ev P G X (.cpr elt own tg (.rng a b) ifs) env st = .ok (.lst (((List.range n).filter p).map g)) st :=
  cpr_rngF 0 n p g ha (by rw [Int.zero_add]; exact hb) (by omega) (by omega) hn hne fun k hk => by rw [Int.zero_add]; exact hg k hk
theorem cpr_rng0M (n : Nat) (g : Nat → D) (ha : ev P G X a env st = .ok (.int 0) st) (hb : ev P G X b env st = .ok (.int n) st) (hn : n < 1000000)
    (hg : ∀ k, k < n → ∃ env2, asgT tg (.int (k : Int)) (wipeE env own) = some env2 ∧ ev P G X elt env2 st = .ok (g k) st) :
    ev P G X (.cpr elt own tg (.rng a b) .nil) env st = .ok (.lst ((List.range n).map g)) st :=
  cpr_rngM 0 n g ha (by rw [Int.zero_add]; exact hb) (by omega) (by omega) hn fun k hk => by rw [Int.zero_add]; exact hg k hk
end
/-! ### what draws -/
def All2 {α : Type} (T : α → D → Prop) : List α → List D → Prop
  | [], [] => True
  | a :: as, d :: ds => T a d ∧ All2 T as ds
  | _, _ => False
theorem all2_len {α : Type} {T : α → D → Prop} : ∀ {as : List α} {ds : List D}, All2 T as ds → ds.length = as.length
  | [], [], _ => rfl
  | a :: as, d :: ds, h => by rw [List.length_cons, List.length_cons, all2_len h.2]
  | [], _ :: _, h => h.elim
  | _ :: _, [], h => h.elim
/-- what each draw gives, as plain values -/
theorem all2_plain {α β : Type} {T : α → D → Prop} {V : β → Prop} {enc : β → D} (h : ∀ a d, T a d → ∃ b, V b ∧ d = enc b) : ∀ {as : List α} {ds : List D}, All2 T as ds → ∃ bs : List β, ds = bs.map enc ∧ bs.length = as.length ∧ ∀ b ∈ bs, V b
  | [], [], _ => ⟨[], rfl, rfl, by simp⟩
  | a :: as, d :: ds, k => by
    obtain ⟨b, hv, rfl⟩ := h a d k.1
    obtain ⟨bs, rfl, h2, h3⟩ := all2_plain h k.2
    exact ⟨b :: bs, rfl, by rw [List.length_cons, List.length_cons, h2], by simp [hv]; exact h3⟩
  | [], _ :: _, h => h.elim
  | _ :: _, [], h => h.elim
section
variable {P : Pt} {G : Fns} {X : Xh} {elt it ifs a b : Ex} {own : List Nat} {tg : Tg} {env : List Sl} {st : Store}
theorem loopC_draw {α : Type} {T : α → D → Prop} {enc : α → D} {f : D → Store → R (Option D)} : ∀ {xs : List α} {ρ : Dw}, ρ.ok → (∀ x ∈ xs, ∀ ρ : Dw, ρ.ok → ∃ y ρ', f (enc x) [ρ.cell] = .ok (some y) [Dw.cell ρ'] ∧ ρ'.ok ∧ T x y) →
    ∃ ys ρ', loopC f (xs.map enc) [ρ.cell] = .ok ys [Dw.cell ρ'] ∧ ρ'.ok ∧ All2 T xs ys
  | [], ρ, h, _ => ⟨[], ρ, rfl, h, trivial⟩
  | x :: xs, ρ, h, k => by
    obtain ⟨y, ρ1, e1, h1, t1⟩ := k x List.mem_cons_self ρ h
    obtain ⟨ys, ρ2, e2, h2, t2⟩ := loopC_draw (xs := xs) h1 fun x hx => k x (List.mem_cons_of_mem _ hx)
    refine ⟨y :: ys, ρ2, ?_, h2, t1, t2⟩
    rw [List.map_cons]
    unfold loopC
    rw [e1]
    dsimp only
    rw [e2]
theorem bind_draw {α : Type} {T : α → D → Prop} {enc : α → D} {f : D → Store → R (Option D)} {xs : List α} {ρ : Dw} (h : ρ.ok) (k : ∀ x ∈ xs, ∀ ρ : Dw, ρ.ok → ∃ y ρ', f (enc x) [ρ.cell] = .ok (some y) [Dw.cell ρ'] ∧ ρ'.ok ∧ T x y) :
    ∃ ys ρ', ((loopC f (xs.map enc) [ρ.cell]).bind fun ys s2 => R.ok (D.lst ys) s2) = .ok (.lst ys) [Dw.cell ρ'] ∧ ρ'.ok ∧ All2 T xs ys := by
  obtain ⟨ys, ρ', e, h2, h3⟩ := loopC_draw (T := T) h k
  exact ⟨ys, ρ', by rw [e, bind_ok], h2, h3⟩
theorem cpr_draw {α : Type} (enc : α → D) (T : α → D → Prop) {xs : List α} {d : D} {ρ : Dw} (hi : brw env it st (ev P G X it env st) = .ok d [ρ.cell]) (hok : ρ.ok) (hx : itemsD d = some (xs.map enc)) (hl : xs.length < 16777216)
    (hg : ∀ x ∈ xs, ∃ env2, asgT tg (enc x) (wipeE env own) = some env2 ∧ ∀ ρ : Dw, ρ.ok → ∃ y ρ', ev P G X elt env2 [ρ.cell] = .ok y [Dw.cell ρ'] ∧ ρ'.ok ∧ T x y) :
    ∃ ys ρ', ev P G X (.cpr elt own tg it .nil) env st = .ok (.lst ys) [Dw.cell ρ'] ∧ ρ'.ok ∧ All2 T xs ys := by
  rw [ev_cpr, hi, bind_ok, hx]
  dsimp only
  rw [if_pos (show (xs.map enc).length < big by rw [List.length_map]; exact hl)]
  refine bind_draw hok fun x hx ρ hρ => ?_
  obtain ⟨env2, h1, h2⟩ := hg x hx
  obtain ⟨y, ρ', e, h3, h4⟩ := h2 ρ hρ
  refine ⟨y, ρ', ?_, h3, h4⟩
  rw [h1]
  dsimp only
  rw [bodyE_nil, e, bind_ok]
/-- [elt for k in range(n)], drawn -/
theorem cpr_drawR (n : Nat) (T : Nat → D → Prop) {s1 : Store} {ρ : Dw} (ha : ev P G X a env st = .ok (.int 0) s1) (hb : ev P G X b env s1 = .ok (.int (n : Int)) [ρ.cell]) (hok : ρ.ok) (hn : n < 1000000)
    (hg : ∀ k, k < n → ∃ env2, asgT tg (.int (k : Int)) (wipeE env own) = some env2 ∧ ∀ ρ : Dw, ρ.ok → ∃ y ρ', ev P G X elt env2 [ρ.cell] = .ok y [Dw.cell ρ'] ∧ ρ'.ok ∧ T k y) :
    ∃ ys ρ', ev P G X (.cpr elt own tg (.rng a b) .nil) env st = .ok (.lst ys) [Dw.cell ρ'] ∧ ρ'.ok ∧ All2 T (List.range n) ys := by
  have hr : brw env (.rng a b) st (ev P G X (.rng a b) env st) = .ok (.lst ((List.range n).map fun (k : Nat) => .int (k : Int))) [ρ.cell] := by
    have h0 := rngD_0 n (by omega)
    rw [brwY_rng]
    exact rng_ev ha hb h0
  have hlen : (List.range n).length < 16777216 := by rw [List.length_range]; omega
  exact cpr_draw (fun k : Nat => D.int (k : Int)) T hr hok rfl hlen fun k hk => hg k (List.mem_range.mp hk)
end
/-! ### loops over ranges -/
section
variable {P : Pt} {G : Fns} {sup : Nat → Nat → Option Bool} {xf : Nat → List Nat} {X : Xh} {tg : Tg} {a b : Ex} {bd : List Sm} {env : List Sl} {st s1 s2 : Store}
theorem for_rng (i : Int) (n : Nat) (ha : ev P G X a env st = .ok (.int i) s1) (hb : ev P G X b env s1 = .ok (.int (i + n)) s2) (hi : -1000000 < i) (hi2 : i < 1000000) (hn : n < 1000000) :
    ex P G sup xf X (.for_ tg (.rng a b) bd) env st = loopF (forF P G sup xf X tg bd) ((List.range n).map fun (k : Nat) => .int (i + k)) env s2 := by
  have h0 := rngD_n i n (by omega) (by omega)
  rw [ex_forZ, rng_ev ha hb h0, st_ok, items_lst, liftS_ok]
theorem for_rng0 (n : Nat) (ha : ev P G X a env st = .ok (.int 0) s1) (hb : ev P G X b env s1 = .ok (.int (n : Int)) s2) (hn : n < 1000000) :
    ex P G sup xf X (.for_ tg (.rng a b) bd) env st = loopF (forF P G sup xf X tg bd) ((List.range n).map fun (k : Nat) => .int (k : Int)) env s2 := by
  have h0 := rngD_0 n (by omega)
  rw [ex_forZ, rng_ev ha hb h0, st_ok, items_lst, liftS_ok]
end
end Iv

set_option Elab.async false
set_option linter.all false
set_option maxRecDepth 100000
set_option maxHeartbeats 4000000
namespace Iv
open PySem
/-- what repr gives is alike itself -/
def Rpr (v : D) : Prop := ∃ s, rprD v = some (.str s) ∧ eqD (.str s) (.str s) = some true
theorem rpr_some {v : D} (h : ((rprD v).bind fun z => eqD z z) = some true) : Rpr v := by
  unfold Rpr
  unfold rprD at h ⊢
  cases e : D.p v with
  | none => rw [e] at h; cases h
  | some p =>
    rw [e] at h
    dsimp only at h ⊢
    split at h
    · rename_i c
      rw [if_pos c]
      exact ⟨_, rfl, h⟩
    · cases h
theorem mul_l0 (xs : List D) : mulD (.lst xs) (.int 0) = some (.lst []) := rfl
theorem mul_l1' (xs : List D) (h : xs.length < 100000) : mulD (.lst xs) (.int 1) = some (.lst xs) := by
  have hc : (decide (-(2 ^ 63) ≤ (1 : Int)) && decide ((1 : Int) < 2 ^ 63) && fits (xs.length * (1 : Int).toNat)) = true := by
    unfold fits big
    simp only [Bool.and_eq_true, decide_eq_true_eq]
    rw [show (1 : Int).toNat = 1 from rfl, Nat.mul_one]
    omega
  unfold mulD
  dsimp only
  split
  · congr 2
    show (List.replicate 1 xs).flatten = xs
    simp
  · rename_i h
    exact (h hc).elim
theorem eqD_int2 (i j : Int) : eqD (.int i) (.int j) = some (decide (i = j)) := by
  show some (PyData.eqv (.int i) (.int j)) = _
  by_cases h : i = j
  · subst h; simp [PyData.eqv]
  · simp [PyData.eqv, h]
theorem eqD_non : eqD .non .non = some true := rfl
/-- a pair of a plain name and a number, or none -/
theorem eqD_itemI (s : Str) (hs : SeqAt.shaped (.str s) = true) (i : Int) : eqD (.tup [.str s, .int i]) (.tup [.str s, .int i]) = some true := by
  have h : SeqAt.shaped (.tuple [.str s, .int i]) = true := by
    unfold SeqAt.shaped at hs ⊢
    simp [PyData.canLay0, PyData.canLayAll0, PyData.depth, PyData.depthAll] at hs ⊢
    exact hs
  show (if SeqAt.shaped (.tuple [.str s, .int i]) && SeqAt.shaped (.tuple [.str s, .int i]) then some (PyData.eqv (.tuple [.str s, .int i]) (.tuple [.str s, .int i])) else none) = _
  rw [h]
  simp [PyData.eqv, PyData.eqvAll]
theorem eqD_itemN (s : Str) (hs : SeqAt.shaped (.str s) = true) : eqD (.tup [.str s, .non]) (.tup [.str s, .non]) = some true := by
  have h : SeqAt.shaped (.tuple [.str s, .none]) = true := by
    unfold SeqAt.shaped at hs ⊢
    simp [PyData.canLay0, PyData.canLayAll0, PyData.depth, PyData.depthAll] at hs ⊢
    exact hs
  show (if SeqAt.shaped (.tuple [.str s, .none]) && SeqAt.shaped (.tuple [.str s, .none]) then some (PyData.eqv (.tuple [.str s, .none]) (.tuple [.str s, .none])) else none) = _
  rw [h]
  simp [PyData.eqv, PyData.eqvAll]
theorem shaped_item : SeqAt.shaped (.str "item") = true := by decide +kernel
/-- a try of which it is known what its parts do -/
theorem tryF {P : Pt} {G : Fns} {sup : Nat → Nat → Option Bool} {xf : Nat → List Nat} {b u : List Sm} {c c' i : Nat} {fs : List D} {env env2 env3 : List Sl} {st st2 : Store} (h1 : exs P G sup xf none b env st = .exc c' fs env2 st2) (h2 : sup c' c = some true)
    (h3 : exs P G sup xf (some (c', (xf c').zip fs)) u ((unx env2).set i .xc) st2 = .nx env3 st2) : exs P G sup xf none [.try_ b c (some i) u] env st = .nx ((unx env3).set i .no) st2 := by
  rw [exs_cons, try_catch h1 h2 h3, end_nx, then_nx, exs_nil]
end Iv

set_option Elab.async false
set_option linter.all false
set_option maxRecDepth 100000
set_option maxHeartbeats 4000000
namespace Iv
open PySem
/-! ### plain data is alike itself -/
def shD : Nat → D → Bool
  | _, .non => true
  | _, .bl _ => true
  | _, .int _ => true
  | _, .str s => SeqAt.shaped (.str s)
  | k + 1, .tup xs => xs.all (shD k)
  | k + 1, .lst xs => xs.all (shD k)
  | _, _ => false
theorem shD_ps {k : Nat} (ih : ∀ d, shD k d = true → ∃ p, D.p d = some p ∧ PyData.canLay0 p = true ∧ p.depth ≤ k) : ∀ xs : List D, xs.all (shD k) = true → ∃ ps, D.ps xs = some ps ∧ PyData.canLayAll0 ps = true ∧ PyData.depthAll ps ≤ k
  | [], _ => ⟨[], rfl, rfl, Nat.zero_le _⟩
  | x :: xs, h => by
    rw [List.all_cons, Bool.and_eq_true] at h
    obtain ⟨p, e1, e2, e3⟩ := ih x h.1
    obtain ⟨ps, f1, f2, f3⟩ := shD_ps ih xs h.2
    refine ⟨p :: ps, ?_, ?_, ?_⟩
    · show (match D.p x, D.ps xs with | some a, some as => some (a :: as) | _, _ => none) = _
      rw [e1, f1]
    · rw [PyData.canLayAll0, e2, f2]; rfl
    · rw [PyData.depthAll]; omega
theorem shD_p : ∀ (k : Nat) (d : D), shD k d = true → ∃ p, D.p d = some p ∧ PyData.canLay0 p = true ∧ p.depth ≤ k
  | k, .non, _ => ⟨.none, rfl, rfl, Nat.zero_le _⟩
  | k, .bl b, _ => ⟨.bool b, rfl, rfl, Nat.zero_le _⟩
  | k, .int i, _ => ⟨.int i, rfl, rfl, Nat.zero_le _⟩
  | k, .str s, h => by
    refine ⟨.str s, rfl, ?_, Nat.zero_le _⟩
    have h2 : SeqAt.shaped (.str s) = true := by cases k <;> exact h
    unfold SeqAt.shaped at h2
    rw [Bool.and_eq_true] at h2
    exact h2.1
  | 0, .tup xs, h => by cases h
  | 0, .lst xs, h => by cases h
  | k + 1, .tup xs, h => by
    obtain ⟨ps, f1, f2, f3⟩ := shD_ps (shD_p k) xs h
    refine ⟨.tuple ps, ?_, f2, ?_⟩
    · show (D.ps xs).map PyData.tuple = _; rw [f1]; rfl
    · rw [PyData.depth]; omega
  | k + 1, .lst xs, h => by
    obtain ⟨ps, f1, f2, f3⟩ := shD_ps (shD_p k) xs h
    refine ⟨.list ps, ?_, f2, ?_⟩
    · show (D.ps xs).map PyData.list = _; rw [f1]; rfl
    · rw [PyData.depth]; omega
  | 0, .obj _ _, h => by cases h
  | 0, .fn _, h => by cases h
  | 0, .loc _, h => by cases h
  | _ + 1, .obj _ _, h => by cases h
  | _ + 1, .fn _, h => by cases h
  | _ + 1, .loc _, h => by cases h
theorem eqD_self (k : Nat) (hk : k ≤ 64) (d : D) (h : shD k d = true) : eqD d d = some true := by
  obtain ⟨p, e1, e2, e3⟩ := shD_p k d h
  have hs : SeqAt.shaped p = true := by
    unfold SeqAt.shaped
    rw [e2, decide_eq_true (by omega)]
    rfl
  unfold eqD
  rw [e1]
  dsimp only
  rw [hs]
  exact congrArg some (SeqAt.eqv_refl p e2)
/-- None in a list of numbers and None -/
def optI : Option Int → D
  | none => .non
  | some i => .int i
theorem inD_non (os : List (Option Int)) : inD .non (.lst (os.map optI)) = some (os.any Option.isNone) := by
  have hs : ∀ os : List (Option Int), ∃ ps, D.ps (os.map optI) = some ps ∧ PyData.canLayAll0 ps = true ∧ PyData.depthAll ps = 0 ∧ ps.any (fun z => PyData.eqv z .none) = os.any Option.isNone := fun os => by
    induction os with
    | nil => exact ⟨[], rfl, rfl, rfl, rfl⟩
    | cons o os ih =>
      obtain ⟨ps, e1, e2, e3, e4⟩ := ih
      cases o with
      | none =>
        refine ⟨.none :: ps, ?_, ?_, ?_, ?_⟩
        · show (match D.p .non, D.ps (os.map optI) with | some a, some as => some (a :: as) | _, _ => none) = _
          rw [e1]; rfl
        · rw [PyData.canLayAll0, e2]; rfl
        · rw [PyData.depthAll, e3]; rfl
        · rw [List.any_cons, List.any_cons, e4]; rfl
      | some i =>
        refine ⟨.int i :: ps, ?_, ?_, ?_, ?_⟩
        · show (match D.p (.int i), D.ps (os.map optI) with | some a, some as => some (a :: as) | _, _ => none) = _
          rw [e1]; rfl
        · rw [PyData.canLayAll0, e2]; rfl
        · rw [PyData.depthAll, e3]; rfl
        · rw [List.any_cons, List.any_cons, e4]; rfl
  obtain ⟨ps, e1, e2, e3, e4⟩ := hs os
  show (match D.p .non, D.ps (os.map optI) with | some x, some zs => if SeqAt.shaped x && SeqAt.shaped (.list zs) then some (zs.any fun z => PyData.eqv z x) else none | _, _ => none) = _
  rw [e1]
  have h1 : D.p .non = some .none := rfl
  rw [h1]
  dsimp only
  have h2 : (SeqAt.shaped .none && SeqAt.shaped (.list ps)) = true := by
    unfold SeqAt.shaped
    simp [PyData.canLay0, PyData.depth, e2, e3]
  rw [h2]
  exact congrArg some e4
end Iv

set_option Elab.async false
set_option linter.all false
set_option maxRecDepth 100000
set_option maxHeartbeats 8000000
namespace Law
open PySem PySem.Spec PyProof.Rows L2 Iv He
/-! the program in the small language (printed by gen_ir.py) -/
def top (i : Nat) : Stmt := PySem.Challenge.pw_mealsbynoon_k09_errors.main.body.getD i (.Pass ⟨0, 0, 0, 0⟩)
def sub (i j : Nat) : Stmt := match top i with
  | .ClassDef _ _ _ b _ _ _ _ _ _ _ => b.getD j (.Pass ⟨0, 0, 0, 0⟩)
  | _ => .Pass ⟨0, 0, 0, 0⟩
/-- _law_taken: 0 row, 1 many, 2 found, 3 cell -/
def ir0 : List Sm := [.iff (.cmp .gt (.idx (.var 0) (.lit (.int 3))) (.lit (.int 0))) [.asg (.nm 2) (.bin .mod (.bf .int [.idx (.var 0) (.lit (.int 3))]) (.var 1)),
.sti 0 (.lit (.int 3)) (.bin .fdv (.idx (.var 0) (.lit (.int 3))) (.var 1)),
.ret (.var 2)] [],
  .sti 0 (.lit (.int 1)) (.bin .add (.idx (.var 0) (.lit (.int 1))) (.lit (.int 1))),
  .iff (.cmp .gt (.idx (.var 0) (.lit (.int 1))) (.bf .len [.idx (.var 0) (.lit (.int 0))])) [.sti 0 (.lit (.int 2)) (.bin .mod (.bf .int [.bin .add (.bin .mul (.idx (.var 0) (.lit (.int 2))) (.lit (.int 48271))) (.lit (.int 11))]) (.lit (.int 2147483647))),
.ret (.bin .mod (.bf .int [.bin .fdv (.idx (.var 0) (.lit (.int 2))) (.lit (.int 7))]) (.var 1))] [],
  .asg (.nm 3) (.idx (.idx (.var 0) (.lit (.int 0))) (.bin .sub (.idx (.var 0) (.lit (.int 1))) (.lit (.int 1)))),
  .sti 0 (.lit (.int 2)) (.bin .mod (.bf .int [.bin .add (.bin .add (.bin .mul (.idx (.var 0) (.lit (.int 2))) (.lit (.int 48271))) (.var 3)) (.lit (.int 11))]) (.lit (.int 2147483647))),
  .iff (.cmp .ge (.var 3) (.bin .pow (.lit (.int 10)) (.lit (.int 18)))) [.sti 0 (.lit (.int 3)) (.bin .fdv (.var 3) (.var 1))] [],
  .ret (.bin .mod (.bf .int [.var 3]) (.var 1))]
def df0 : DfI := ⟨⟨("_law_taken", none), "_law_taken", "_law_taken", defArgs (top 13), defBody (top 13), defScope (top 13), [], []⟩, ["row", "many", "found", "cell"], ["row", "many"], ir0⟩
/-- _law_pick: 0 row, 1 kinds -/
def ir1 : List Sm := [.ret (.idx (.var 1) (.call 0 [.var 0, .bf .len [.var 1]]))]
def df1 : DfI := ⟨⟨("_law_pick", none), "_law_pick", "_law_pick", defArgs (top 14), defBody (top 14), defScope (top 14), [], []⟩, ["row", "kinds"], ["row", "kinds"], ir1⟩
/-- _law_alike: 0 found, 1 due, 2 k -/
def ir2 : List Sm := [.iff (.isi (.var 1) [.tuple, .list]) [.iff (.or (.not (.isi (.var 0) [.tuple, .list])) (.one (.cmp .ne (.isi (.var 0) [.list]) (.isi (.var 1) [.list])))) [.ret (.lit (.bl false))] [],
.iff (.cmp .ne (.bf .len [.var 0]) (.bf .len [.var 1])) [.ret (.lit (.bl false))] [],
.ret (.cmp .eq (.cpr (.var 2) [2] (.nm 2) (.rng (.lit (.int 0)) (.bf .len [.var 1])) (.not (.call 2 [.idx (.var 0) (.var 2), .idx (.var 1) (.var 2)]))) (.lst []))] [],
  .iff (.or (.cmp .is_ (.var 1) (.lit .non)) (.one (.isi (.var 1) [.str]))) [.ret (.and (.cmp .eq (.var 0) (.var 1)) (.one (.cmp .eq (.isi (.var 0) [.str]) (.isi (.var 1) [.str]))))] [],
  .ret (.and (.isi (.var 0) [.int]) (.and (.cmp .eq (.isi (.var 0) [.bool]) (.isi (.var 1) [.bool])) (.one (.cmp .eq (.var 0) (.var 1)))))]
def df2 : DfI := ⟨⟨("_law_alike", none), "_law_alike", "_law_alike", defArgs (top 15), defBody (top 15), defScope (top 15), [], []⟩, ["found", "due", "k"], ["found", "due"], ir2⟩
/-- _law_raised: 0 number, 1 value, 2 named, 3 e, 4 kinds, 5 field -/
def ir3b0 : List Sm := [.iff (.cmp .eq (.var 0) (.lit (.int 0))) [.rai 0 [.var 1]] [],
.iff (.cmp .eq (.var 0) (.lit (.int 1))) [.rai 1 [.var 1]] [],
.iff (.cmp .eq (.var 0) (.lit (.int 2))) [.rai 2 [.var 1]] [],
.iff (.cmp .eq (.var 0) (.lit (.int 3))) [.rai 3 [.var 1]] [],
.iff (.cmp .eq (.var 0) (.lit (.int 4))) [.rai 4 [.var 1]] [],
.iff (.cmp .eq (.var 0) (.lit (.int 5))) [.rai 5 [.var 1]] [],
.iff (.cmp .eq (.var 0) (.lit (.int 6))) [.rai 6 [.var 1]] [],
.iff (.cmp .eq (.var 0) (.lit (.int 7))) [.rai 7 [.var 1]] [],
.iff (.cmp .eq (.var 0) (.lit (.int 8))) [.rai 8 [.var 1, .var 2]] [],
.rai 9 []]
def ir3b1 : List Sm := [.asg (.nm 4) (.lst [.xis 3 0, .xis 3 1, .xis 3 2, .xis 3 3, .xis 3 4]),
.asg (.nm 4) (.bin .add (.var 4) (.lst [.xis 3 5, .xis 3 6, .xis 3 7, .xis 3 8, .xis 3 9])),
.iff (.or (.not (.xis 3 12)) (.or (.xis 3 11) (.one (.xis 3 10)))) [.ret (.lit .non)] [],
.asg (.nm 5) (.lit .non),
.iff (.cmp .in_ (.var 0) (.lst [.lit (.int 0), .lit (.int 1), .lit (.int 3), .lit (.int 6), .lit (.int 7)])) [.asg (.nm 5) (.xat 3 0)] [],
.iff (.cmp .eq (.var 0) (.lit (.int 2))) [.asg (.nm 5) (.xat 3 1)] [],
.iff (.cmp .eq (.var 0) (.lit (.int 4))) [.asg (.nm 5) (.xat 3 2)] [],
.iff (.cmp .eq (.var 0) (.lit (.int 5))) [.asg (.nm 5) (.xat 3 3)] [],
.iff (.cmp .eq (.var 0) (.lit (.int 8))) [.asg (.nm 5) (.tup [.xat 3 4, .xat 3 5])] [],
.ret (.tup [.var 4, .var 5])]
def ir3 : List Sm := [.try_ ir3b0 10 (some 3) ir3b1]
def df3 : DfI := ⟨⟨("_law_raised", none), "_law_raised", "_law_raised", defArgs (top 16), defBody (top 16), defScope (top 16), [], []⟩, ["number", "value", "named", "e", "kinds", "field"], ["number", "value", "named"], ir3⟩
/-- law: 0 script, 1 row, 2 number, 3 value, 4 named, 5 told, 6 due, 7 made, 8 k -/
def ir4b0 : List Sm := [.asg (.nm 3) (.call 1 [.var 1, .lst [.lit .non, .lit (.int 7), .lit (.str "x"), .tup [.lit (.int 1), .lit (.int 2)], .lit (.bl true), .call 0 [.var 1, .bin .pow (.lit (.int 10)) (.lit (.int 9))]]]),
.asg (.nm 4) (.call 1 [.var 1, .lst [.tup [], .tup [.lit (.str "a")]]]),
.asg (.nm 5) (.call 3 [.var 2, .var 3, .var 4]),
.iff (.or (.cmp .is_ (.var 5) (.lit .non)) (.one (.cmp .ne (.idx (.var 5) (.lit (.int 0))) (.cpr (.cmp .eq (.var 8) (.var 2)) [8] (.nm 8) (.rng (.lit (.int 0)) (.lit (.int 10))) .nil)))) [.ret (.lit (.bl false))] [],
.asg (.nm 6) (.var 3),
.iff (.cmp .eq (.var 2) (.lit (.int 8))) [.asg (.nm 6) (.tup [.var 3, .var 4])] [],
.iff (.and (.cmp .lt (.var 2) (.lit (.int 9))) (.one (.or (.cmp .ne (.idx (.var 5) (.lit (.int 1))) (.var 6)) (.one (.cmp .ne (.isi (.idx (.var 5) (.lit (.int 1))) [.bool]) (.isi (.var 6) [.bool])))))) [.ret (.lit (.bl false))] []]
def ir4 : List Sm := [.new 1 (.lst [.var 0, .lit (.int 0), .lit (.int 53), .lit (.int 0)]),
  .for_ (.nm 2) (.rng (.lit (.int 0)) (.lit (.int 10))) ir4b0,
  .asg (.nm 7) (.lst [.xkf 0 [0] [.lit (.int 1)] 0, .xkf 1 [0] [.lit (.str "a")] 0, .xkf 2 [1] [.lit (.int 4)] 1, .xkf 3 [0] [.lit (.int 5)] 0, .xkf 4 [2] [.lit (.int 6)] 2]),
  .asg (.nm 7) (.bin .add (.var 7) (.lst [.xkf 5 [3] [.lit (.int 7)] 3, .xkf 6 [0] [.lit (.int 8)] 0, .xkf 7 [0] [.lit (.int 9)] 0, .xkf 8 [4, 5] [.lit (.str "r"), .lit (.int 11)] 5, .xkf 8 [5, 4] [.lit (.int 1), .lit (.str "s")] 4])),
  .ret (.call 2 [.var 7, .lst [.lit (.int 1), .lit (.str "a"), .lit (.int 4), .lit (.int 5), .lit (.int 6), .lit (.int 7), .lit (.int 8), .lit (.int 9), .lit (.int 11), .lit (.str "s")]])]
def df4 : DfI := ⟨⟨("law", none), "law", "law", defArgs (top 17), defBody (top 17), defScope (top 17), [], []⟩, ["script", "row", "number", "value", "named", "told", "due", "made", "k"], ["script"], ir4⟩
def er0 : ErD := ⟨"BadNumber", "BadNumber.__init__", defArgs (sub 2 0), defBody (sub 2 0), defScope (sub 2 0), ["value"]⟩
def er1 : ErD := ⟨"BadName", "BadName.__init__", defArgs (sub 3 0), defBody (sub 3 0), defScope (sub 3 0), ["value"]⟩
def er2 : ErD := ⟨"BadItem", "BadItem.__init__", defArgs (sub 4 0), defBody (sub 4 0), defScope (sub 4 0), ["index"]⟩
def er3 : ErD := ⟨"BadEvent", "BadEvent.__init__", defArgs (sub 5 0), defBody (sub 5 0), defScope (sub 5 0), ["value"]⟩
def er4 : ErD := ⟨"BadNote", "BadNote.__init__", defArgs (sub 6 0), defBody (sub 6 0), defScope (sub 6 0), ["line"]⟩
def er5 : ErD := ⟨"TooMany", "TooMany.__init__", defArgs (sub 7 0), defBody (sub 7 0), defScope (sub 7 0), ["limit"]⟩
def er6 : ErD := ⟨"Unknown", "Unknown.__init__", defArgs (sub 8 0), defBody (sub 8 0), defScope (sub 8 0), ["value"]⟩
def er7 : ErD := ⟨"Taken", "Taken.__init__", defArgs (sub 9 0), defBody (sub 9 0), defScope (sub 9 0), ["value"]⟩
def er8 : ErD := ⟨"Refused", "Refused.__init__", defArgs (sub 10 0), defBody (sub 10 0), defScope (sub 10 0), ["reason", "names"]⟩
def tb : Tb := ⟨[("_law_taken", 0), ("_law_pick", 1), ("_law_alike", 2), ("_law_raised", 3), ("law", 4)],
  [], [("BadNumber", 0), ("BadName", 1), ("BadItem", 2), ("BadEvent", 3), ("BadNote", 4), ("TooMany", 5), ("Unknown", 6), ("Taken", 7), ("Refused", 8)], [],
  ["int", "len", "isinstance", "tuple", "list", "range", "str", "bool"], ["value", "index", "line", "limit", "reason", "names"], [0, 1, 2, 3, 4, 5], [("NothingToUndo", 9), ("MealsError", 10)], [("BadNumber", 0), ("BadName", 1), ("BadItem", 2), ("BadEvent", 3), ("BadNote", 4), ("TooMany", 5), ("Unknown", 6), ("Taken", 7), ("Refused", 8), ("NothingToUndo", 9), ("RuntimeError", 10), ("LookupError", 11), ("ValueError", 12)], [(0, [0]), (1, [0]), (2, [1]), (3, [0]), (4, [2]), (5, [3]), (6, [0]), (7, [0]), (8, [4, 5]), (8, [5, 4])]⟩
def R : Prog := ⟨PySem.Challenge.pw_mealsbynoon_k09_errors, tb, [df0, df1, df2, df3, df4], [er0, er1, er2, er3, er4, er5, er6, er7, er8],
  [], [], [], [], [], [(0, 0, true), (0, 1, false), (0, 2, false), (0, 3, false), (0, 4, false), (0, 5, false), (0, 6, false), (0, 7, false), (0, 8, false), (0, 9, false), (0, 10, true), (1, 0, false), (1, 1, true), (1, 2, false), (1, 3, false), (1, 4, false), (1, 5, false), (1, 6, false), (1, 7, false), (1, 8, false), (1, 9, false), (1, 10, true), (2, 0, false), (2, 1, false), (2, 2, true), (2, 3, false), (2, 4, false), (2, 5, false), (2, 6, false), (2, 7, false), (2, 8, false), (2, 9, false), (2, 10, true), (3, 0, false), (3, 1, false), (3, 2, false), (3, 3, true), (3, 4, false), (3, 5, false), (3, 6, false), (3, 7, false), (3, 8, false), (3, 9, false), (3, 10, true), (4, 0, false), (4, 1, false), (4, 2, false), (4, 3, false), (4, 4, true), (4, 5, false), (4, 6, false), (4, 7, false), (4, 8, false), (4, 9, false), (4, 10, true), (5, 0, false), (5, 1, false), (5, 2, false), (5, 3, false), (5, 4, false), (5, 5, true), (5, 6, false), (5, 7, false), (5, 8, false), (5, 9, false), (5, 10, true), (6, 0, false), (6, 1, false), (6, 2, false), (6, 3, false), (6, 4, false), (6, 5, false), (6, 6, true), (6, 7, false), (6, 8, false), (6, 9, false), (6, 10, true), (7, 0, false), (7, 1, false), (7, 2, false), (7, 3, false), (7, 4, false), (7, 5, false), (7, 6, false), (7, 7, true), (7, 8, false), (7, 9, false), (7, 10, true), (8, 0, false), (8, 1, false), (8, 2, false), (8, 3, false), (8, 4, false), (8, 5, false), (8, 6, false), (8, 7, false), (8, 8, true), (8, 9, false), (8, 10, true), (9, 0, false), (9, 1, false), (9, 2, false), (9, 3, false), (9, 4, false), (9, 5, false), (9, 6, false), (9, 7, false), (9, 8, false), (9, 9, true), (9, 10, true), (10, 0, false), (10, 1, false), (10, 2, false), (10, 3, false), (10, 4, false), (10, 5, false), (10, 6, false), (10, 7, false), (10, 8, false), (10, 9, false), (10, 10, true)], 10000000000, [], [], ["NothingToUndo", "MealsError"], [.own "BadNumber", .own "BadName", .own "BadItem", .own "BadEvent", .own "BadNote", .own "TooMany", .own "Unknown", .own "Taken", .own "Refused", .own "NothingToUndo", .re, .le, .ve], [(0, 0, true), (0, 1, false), (0, 2, false), (0, 3, false), (0, 4, false), (0, 5, false), (0, 6, false), (0, 7, false), (0, 8, false), (0, 9, false), (0, 10, false), (0, 11, false), (0, 12, true), (1, 0, false), (1, 1, true), (1, 2, false), (1, 3, false), (1, 4, false), (1, 5, false), (1, 6, false), (1, 7, false), (1, 8, false), (1, 9, false), (1, 10, false), (1, 11, false), (1, 12, true), (2, 0, false), (2, 1, false), (2, 2, true), (2, 3, false), (2, 4, false), (2, 5, false), (2, 6, false), (2, 7, false), (2, 8, false), (2, 9, false), (2, 10, false), (2, 11, false), (2, 12, true), (3, 0, false), (3, 1, false), (3, 2, false), (3, 3, true), (3, 4, false), (3, 5, false), (3, 6, false), (3, 7, false), (3, 8, false), (3, 9, false), (3, 10, false), (3, 11, false), (3, 12, true), (4, 0, false), (4, 1, false), (4, 2, false), (4, 3, false), (4, 4, true), (4, 5, false), (4, 6, false), (4, 7, false), (4, 8, false), (4, 9, false), (4, 10, false), (4, 11, false), (4, 12, true), (5, 0, false), (5, 1, false), (5, 2, false), (5, 3, false), (5, 4, false), (5, 5, true), (5, 6, false), (5, 7, false), (5, 8, false), (5, 9, false), (5, 10, false), (5, 11, false), (5, 12, true), (6, 0, false), (6, 1, false), (6, 2, false), (6, 3, false), (6, 4, false), (6, 5, false), (6, 6, true), (6, 7, false), (6, 8, false), (6, 9, false), (6, 10, false), (6, 11, false), (6, 12, true), (7, 0, false), (7, 1, false), (7, 2, false), (7, 3, false), (7, 4, false), (7, 5, false), (7, 6, false), (7, 7, true), (7, 8, false), (7, 9, false), (7, 10, false), (7, 11, false), (7, 12, true), (8, 0, false), (8, 1, false), (8, 2, false), (8, 3, false), (8, 4, false), (8, 5, false), (8, 6, false), (8, 7, false), (8, 8, true), (8, 9, false), (8, 10, false), (8, 11, false), (8, 12, true), (9, 0, false), (9, 1, false), (9, 2, false), (9, 3, false), (9, 4, false), (9, 5, false), (9, 6, false), (9, 7, false), (9, 8, false), (9, 9, true), (9, 10, false), (9, 11, false), (9, 12, true), (10, 0, false), (10, 1, false), (10, 2, false), (10, 3, false), (10, 4, false), (10, 5, false), (10, 6, false), (10, 7, false), (10, 8, false), (10, 9, false), (10, 10, false), (10, 11, false), (10, 12, true)]⟩
theorem bind : allP dfBind R.defs := ⟨(fun _ _ _ _ _ _ us hl => match us, hl with | [_, _], _ => rfl), (fun _ _ _ _ _ _ us hl => match us, hl with | [_, _], _ => rfl), (fun _ _ _ _ _ _ us hl => match us, hl with | [_, _], _ => rfl), (fun _ _ _ _ _ _ us hl => match us, hl with | [_, _, _], _ => rfl), (fun _ _ _ _ _ _ us hl => match us, hl with | [_], _ => rfl), trivial⟩
theorem bindE : allP erBind R.errs := ⟨(fun _ _ _ _ _ _ _ _ _ _ => .of_eq (by first | rfl | with_unfolding_all rfl | kernel_rfl)), (fun _ _ _ _ _ _ _ _ _ _ => .of_eq (by first | rfl | with_unfolding_all rfl | kernel_rfl)), (fun _ _ _ _ _ _ _ _ _ _ => .of_eq (by first | rfl | with_unfolding_all rfl | kernel_rfl)), (fun _ _ _ _ _ _ _ _ _ _ => .of_eq (by first | rfl | with_unfolding_all rfl | kernel_rfl)), (fun _ _ _ _ _ _ _ _ _ _ => .of_eq (by first | rfl | with_unfolding_all rfl | kernel_rfl)), (fun _ _ _ _ _ _ _ _ _ _ => .of_eq (by first | rfl | with_unfolding_all rfl | kernel_rfl)), (fun _ _ _ _ _ _ _ _ _ _ => .of_eq (by first | rfl | with_unfolding_all rfl | kernel_rfl)), (fun _ _ _ _ _ _ _ _ _ _ => .of_eq (by first | rfl | with_unfolding_all rfl | kernel_rfl)), (fun _ _ _ _ _ _ _ _ _ _ _ => .of_eq (by first | rfl | with_unfolding_all rfl | kernel_rfl)), trivial⟩
theorem bindK : R.tb.xks = [] ∨ allP erBindK R.errs := .inr ⟨(fun _ _ _ _ _ _ _ _ _ _ => .of_eq (by first | rfl | with_unfolding_all rfl | kernel_rfl)), (fun _ _ _ _ _ _ _ _ _ _ => .of_eq (by first | rfl | with_unfolding_all rfl | kernel_rfl)), (fun _ _ _ _ _ _ _ _ _ _ => .of_eq (by first | rfl | with_unfolding_all rfl | kernel_rfl)), (fun _ _ _ _ _ _ _ _ _ _ => .of_eq (by first | rfl | with_unfolding_all rfl | kernel_rfl)), (fun _ _ _ _ _ _ _ _ _ _ => .of_eq (by first | rfl | with_unfolding_all rfl | kernel_rfl)), (fun _ _ _ _ _ _ _ _ _ _ => .of_eq (by first | rfl | with_unfolding_all rfl | kernel_rfl)), (fun _ _ _ _ _ _ _ _ _ _ => .of_eq (by first | rfl | with_unfolding_all rfl | kernel_rfl)), (fun _ _ _ _ _ _ _ _ _ _ => .of_eq (by first | rfl | with_unfolding_all rfl | kernel_rfl)), (fun _ _ _ _ _ _ _ _ _ _ _ _ h => by rcases h with rfl | rfl <;> exact .of_eq (by first | rfl | with_unfolding_all rfl | kernel_rfl)), trivial⟩
@[simp] theorem tb_xf0 : R.pg.xf 0 = [0] := rfl
@[simp] theorem tb_xf1 : R.pg.xf 1 = [0] := rfl
@[simp] theorem tb_xf2 : R.pg.xf 2 = [1] := rfl
@[simp] theorem tb_xf3 : R.pg.xf 3 = [0] := rfl
@[simp] theorem tb_xf4 : R.pg.xf 4 = [2] := rfl
@[simp] theorem tb_xf5 : R.pg.xf 5 = [3] := rfl
@[simp] theorem tb_xf6 : R.pg.xf 6 = [0] := rfl
@[simp] theorem tb_xf7 : R.pg.xf 7 = [0] := rfl
@[simp] theorem tb_xf8 : R.pg.xf 8 = [4, 5] := rfl
@[simp] theorem tb_sup0_0 : R.pg.sup 0 0 = some true := rfl
@[simp] theorem tb_sup0_1 : R.pg.sup 0 1 = some false := rfl
@[simp] theorem tb_sup0_2 : R.pg.sup 0 2 = some false := rfl
@[simp] theorem tb_sup0_3 : R.pg.sup 0 3 = some false := rfl
@[simp] theorem tb_sup0_4 : R.pg.sup 0 4 = some false := rfl
@[simp] theorem tb_sup0_5 : R.pg.sup 0 5 = some false := rfl
@[simp] theorem tb_sup0_6 : R.pg.sup 0 6 = some false := rfl
@[simp] theorem tb_sup0_7 : R.pg.sup 0 7 = some false := rfl
@[simp] theorem tb_sup0_8 : R.pg.sup 0 8 = some false := rfl
@[simp] theorem tb_sup0_9 : R.pg.sup 0 9 = some false := rfl
@[simp] theorem tb_sup0_10 : R.pg.sup 0 10 = some true := rfl
@[simp] theorem tb_sup1_0 : R.pg.sup 1 0 = some false := rfl
@[simp] theorem tb_sup1_1 : R.pg.sup 1 1 = some true := rfl
@[simp] theorem tb_sup1_2 : R.pg.sup 1 2 = some false := rfl
@[simp] theorem tb_sup1_3 : R.pg.sup 1 3 = some false := rfl
@[simp] theorem tb_sup1_4 : R.pg.sup 1 4 = some false := rfl
@[simp] theorem tb_sup1_5 : R.pg.sup 1 5 = some false := rfl
@[simp] theorem tb_sup1_6 : R.pg.sup 1 6 = some false := rfl
@[simp] theorem tb_sup1_7 : R.pg.sup 1 7 = some false := rfl
@[simp] theorem tb_sup1_8 : R.pg.sup 1 8 = some false := rfl
@[simp] theorem tb_sup1_9 : R.pg.sup 1 9 = some false := rfl
@[simp] theorem tb_sup1_10 : R.pg.sup 1 10 = some true := rfl
@[simp] theorem tb_sup2_0 : R.pg.sup 2 0 = some false := rfl
@[simp] theorem tb_sup2_1 : R.pg.sup 2 1 = some false := rfl
@[simp] theorem tb_sup2_2 : R.pg.sup 2 2 = some true := rfl
@[simp] theorem tb_sup2_3 : R.pg.sup 2 3 = some false := rfl
@[simp] theorem tb_sup2_4 : R.pg.sup 2 4 = some false := rfl
@[simp] theorem tb_sup2_5 : R.pg.sup 2 5 = some false := rfl
@[simp] theorem tb_sup2_6 : R.pg.sup 2 6 = some false := rfl
@[simp] theorem tb_sup2_7 : R.pg.sup 2 7 = some false := rfl
@[simp] theorem tb_sup2_8 : R.pg.sup 2 8 = some false := rfl
@[simp] theorem tb_sup2_9 : R.pg.sup 2 9 = some false := rfl
@[simp] theorem tb_sup2_10 : R.pg.sup 2 10 = some true := rfl
@[simp] theorem tb_sup3_0 : R.pg.sup 3 0 = some false := rfl
@[simp] theorem tb_sup3_1 : R.pg.sup 3 1 = some false := rfl
@[simp] theorem tb_sup3_2 : R.pg.sup 3 2 = some false := rfl
@[simp] theorem tb_sup3_3 : R.pg.sup 3 3 = some true := rfl
@[simp] theorem tb_sup3_4 : R.pg.sup 3 4 = some false := rfl
@[simp] theorem tb_sup3_5 : R.pg.sup 3 5 = some false := rfl
@[simp] theorem tb_sup3_6 : R.pg.sup 3 6 = some false := rfl
@[simp] theorem tb_sup3_7 : R.pg.sup 3 7 = some false := rfl
@[simp] theorem tb_sup3_8 : R.pg.sup 3 8 = some false := rfl
@[simp] theorem tb_sup3_9 : R.pg.sup 3 9 = some false := rfl
@[simp] theorem tb_sup3_10 : R.pg.sup 3 10 = some true := rfl
@[simp] theorem tb_sup4_0 : R.pg.sup 4 0 = some false := rfl
@[simp] theorem tb_sup4_1 : R.pg.sup 4 1 = some false := rfl
@[simp] theorem tb_sup4_2 : R.pg.sup 4 2 = some false := rfl
@[simp] theorem tb_sup4_3 : R.pg.sup 4 3 = some false := rfl
@[simp] theorem tb_sup4_4 : R.pg.sup 4 4 = some true := rfl
@[simp] theorem tb_sup4_5 : R.pg.sup 4 5 = some false := rfl
@[simp] theorem tb_sup4_6 : R.pg.sup 4 6 = some false := rfl
@[simp] theorem tb_sup4_7 : R.pg.sup 4 7 = some false := rfl
@[simp] theorem tb_sup4_8 : R.pg.sup 4 8 = some false := rfl
@[simp] theorem tb_sup4_9 : R.pg.sup 4 9 = some false := rfl
@[simp] theorem tb_sup4_10 : R.pg.sup 4 10 = some true := rfl
@[simp] theorem tb_sup5_0 : R.pg.sup 5 0 = some false := rfl
@[simp] theorem tb_sup5_1 : R.pg.sup 5 1 = some false := rfl
@[simp] theorem tb_sup5_2 : R.pg.sup 5 2 = some false := rfl
@[simp] theorem tb_sup5_3 : R.pg.sup 5 3 = some false := rfl
@[simp] theorem tb_sup5_4 : R.pg.sup 5 4 = some false := rfl
@[simp] theorem tb_sup5_5 : R.pg.sup 5 5 = some true := rfl
@[simp] theorem tb_sup5_6 : R.pg.sup 5 6 = some false := rfl
@[simp] theorem tb_sup5_7 : R.pg.sup 5 7 = some false := rfl
@[simp] theorem tb_sup5_8 : R.pg.sup 5 8 = some false := rfl
@[simp] theorem tb_sup5_9 : R.pg.sup 5 9 = some false := rfl
@[simp] theorem tb_sup5_10 : R.pg.sup 5 10 = some true := rfl
@[simp] theorem tb_sup6_0 : R.pg.sup 6 0 = some false := rfl
@[simp] theorem tb_sup6_1 : R.pg.sup 6 1 = some false := rfl
@[simp] theorem tb_sup6_2 : R.pg.sup 6 2 = some false := rfl
@[simp] theorem tb_sup6_3 : R.pg.sup 6 3 = some false := rfl
@[simp] theorem tb_sup6_4 : R.pg.sup 6 4 = some false := rfl
@[simp] theorem tb_sup6_5 : R.pg.sup 6 5 = some false := rfl
@[simp] theorem tb_sup6_6 : R.pg.sup 6 6 = some true := rfl
@[simp] theorem tb_sup6_7 : R.pg.sup 6 7 = some false := rfl
@[simp] theorem tb_sup6_8 : R.pg.sup 6 8 = some false := rfl
@[simp] theorem tb_sup6_9 : R.pg.sup 6 9 = some false := rfl
@[simp] theorem tb_sup6_10 : R.pg.sup 6 10 = some true := rfl
@[simp] theorem tb_sup7_0 : R.pg.sup 7 0 = some false := rfl
@[simp] theorem tb_sup7_1 : R.pg.sup 7 1 = some false := rfl
@[simp] theorem tb_sup7_2 : R.pg.sup 7 2 = some false := rfl
@[simp] theorem tb_sup7_3 : R.pg.sup 7 3 = some false := rfl
@[simp] theorem tb_sup7_4 : R.pg.sup 7 4 = some false := rfl
@[simp] theorem tb_sup7_5 : R.pg.sup 7 5 = some false := rfl
@[simp] theorem tb_sup7_6 : R.pg.sup 7 6 = some false := rfl
@[simp] theorem tb_sup7_7 : R.pg.sup 7 7 = some true := rfl
@[simp] theorem tb_sup7_8 : R.pg.sup 7 8 = some false := rfl
@[simp] theorem tb_sup7_9 : R.pg.sup 7 9 = some false := rfl
@[simp] theorem tb_sup7_10 : R.pg.sup 7 10 = some true := rfl
@[simp] theorem tb_sup8_0 : R.pg.sup 8 0 = some false := rfl
@[simp] theorem tb_sup8_1 : R.pg.sup 8 1 = some false := rfl
@[simp] theorem tb_sup8_2 : R.pg.sup 8 2 = some false := rfl
@[simp] theorem tb_sup8_3 : R.pg.sup 8 3 = some false := rfl
@[simp] theorem tb_sup8_4 : R.pg.sup 8 4 = some false := rfl
@[simp] theorem tb_sup8_5 : R.pg.sup 8 5 = some false := rfl
@[simp] theorem tb_sup8_6 : R.pg.sup 8 6 = some false := rfl
@[simp] theorem tb_sup8_7 : R.pg.sup 8 7 = some false := rfl
@[simp] theorem tb_sup8_8 : R.pg.sup 8 8 = some true := rfl
@[simp] theorem tb_sup8_9 : R.pg.sup 8 9 = some false := rfl
@[simp] theorem tb_sup8_10 : R.pg.sup 8 10 = some true := rfl
@[simp] theorem tb_sup9_0 : R.pg.sup 9 0 = some false := rfl
@[simp] theorem tb_sup9_1 : R.pg.sup 9 1 = some false := rfl
@[simp] theorem tb_sup9_2 : R.pg.sup 9 2 = some false := rfl
@[simp] theorem tb_sup9_3 : R.pg.sup 9 3 = some false := rfl
@[simp] theorem tb_sup9_4 : R.pg.sup 9 4 = some false := rfl
@[simp] theorem tb_sup9_5 : R.pg.sup 9 5 = some false := rfl
@[simp] theorem tb_sup9_6 : R.pg.sup 9 6 = some false := rfl
@[simp] theorem tb_sup9_7 : R.pg.sup 9 7 = some false := rfl
@[simp] theorem tb_sup9_8 : R.pg.sup 9 8 = some false := rfl
@[simp] theorem tb_sup9_9 : R.pg.sup 9 9 = some true := rfl
@[simp] theorem tb_sup9_10 : R.pg.sup 9 10 = some true := rfl
@[simp] theorem tb_sup10_0 : R.pg.sup 10 0 = some false := rfl
@[simp] theorem tb_sup10_1 : R.pg.sup 10 1 = some false := rfl
@[simp] theorem tb_sup10_2 : R.pg.sup 10 2 = some false := rfl
@[simp] theorem tb_sup10_3 : R.pg.sup 10 3 = some false := rfl
@[simp] theorem tb_sup10_4 : R.pg.sup 10 4 = some false := rfl
@[simp] theorem tb_sup10_5 : R.pg.sup 10 5 = some false := rfl
@[simp] theorem tb_sup10_6 : R.pg.sup 10 6 = some false := rfl
@[simp] theorem tb_sup10_7 : R.pg.sup 10 7 = some false := rfl
@[simp] theorem tb_sup10_8 : R.pg.sup 10 8 = some false := rfl
@[simp] theorem tb_sup10_9 : R.pg.sup 10 9 = some false := rfl
@[simp] theorem tb_sup10_10 : R.pg.sup 10 10 = some true := rfl
@[simp] theorem tb_xis0_0 : R.pg.pt.xis 0 0 = some true := rfl
@[simp] theorem tb_xis0_1 : R.pg.pt.xis 0 1 = some false := rfl
@[simp] theorem tb_xis0_2 : R.pg.pt.xis 0 2 = some false := rfl
@[simp] theorem tb_xis0_3 : R.pg.pt.xis 0 3 = some false := rfl
@[simp] theorem tb_xis0_4 : R.pg.pt.xis 0 4 = some false := rfl
@[simp] theorem tb_xis0_5 : R.pg.pt.xis 0 5 = some false := rfl
@[simp] theorem tb_xis0_6 : R.pg.pt.xis 0 6 = some false := rfl
@[simp] theorem tb_xis0_7 : R.pg.pt.xis 0 7 = some false := rfl
@[simp] theorem tb_xis0_8 : R.pg.pt.xis 0 8 = some false := rfl
@[simp] theorem tb_xis0_9 : R.pg.pt.xis 0 9 = some false := rfl
@[simp] theorem tb_xis0_10 : R.pg.pt.xis 0 10 = some false := rfl
@[simp] theorem tb_xis0_11 : R.pg.pt.xis 0 11 = some false := rfl
@[simp] theorem tb_xis0_12 : R.pg.pt.xis 0 12 = some true := rfl
@[simp] theorem tb_xis1_0 : R.pg.pt.xis 1 0 = some false := rfl
@[simp] theorem tb_xis1_1 : R.pg.pt.xis 1 1 = some true := rfl
@[simp] theorem tb_xis1_2 : R.pg.pt.xis 1 2 = some false := rfl
@[simp] theorem tb_xis1_3 : R.pg.pt.xis 1 3 = some false := rfl
@[simp] theorem tb_xis1_4 : R.pg.pt.xis 1 4 = some false := rfl
@[simp] theorem tb_xis1_5 : R.pg.pt.xis 1 5 = some false := rfl
@[simp] theorem tb_xis1_6 : R.pg.pt.xis 1 6 = some false := rfl
@[simp] theorem tb_xis1_7 : R.pg.pt.xis 1 7 = some false := rfl
@[simp] theorem tb_xis1_8 : R.pg.pt.xis 1 8 = some false := rfl
@[simp] theorem tb_xis1_9 : R.pg.pt.xis 1 9 = some false := rfl
@[simp] theorem tb_xis1_10 : R.pg.pt.xis 1 10 = some false := rfl
@[simp] theorem tb_xis1_11 : R.pg.pt.xis 1 11 = some false := rfl
@[simp] theorem tb_xis1_12 : R.pg.pt.xis 1 12 = some true := rfl
@[simp] theorem tb_xis2_0 : R.pg.pt.xis 2 0 = some false := rfl
@[simp] theorem tb_xis2_1 : R.pg.pt.xis 2 1 = some false := rfl
@[simp] theorem tb_xis2_2 : R.pg.pt.xis 2 2 = some true := rfl
@[simp] theorem tb_xis2_3 : R.pg.pt.xis 2 3 = some false := rfl
@[simp] theorem tb_xis2_4 : R.pg.pt.xis 2 4 = some false := rfl
@[simp] theorem tb_xis2_5 : R.pg.pt.xis 2 5 = some false := rfl
@[simp] theorem tb_xis2_6 : R.pg.pt.xis 2 6 = some false := rfl
@[simp] theorem tb_xis2_7 : R.pg.pt.xis 2 7 = some false := rfl
@[simp] theorem tb_xis2_8 : R.pg.pt.xis 2 8 = some false := rfl
@[simp] theorem tb_xis2_9 : R.pg.pt.xis 2 9 = some false := rfl
@[simp] theorem tb_xis2_10 : R.pg.pt.xis 2 10 = some false := rfl
@[simp] theorem tb_xis2_11 : R.pg.pt.xis 2 11 = some false := rfl
@[simp] theorem tb_xis2_12 : R.pg.pt.xis 2 12 = some true := rfl
@[simp] theorem tb_xis3_0 : R.pg.pt.xis 3 0 = some false := rfl
@[simp] theorem tb_xis3_1 : R.pg.pt.xis 3 1 = some false := rfl
@[simp] theorem tb_xis3_2 : R.pg.pt.xis 3 2 = some false := rfl
@[simp] theorem tb_xis3_3 : R.pg.pt.xis 3 3 = some true := rfl
@[simp] theorem tb_xis3_4 : R.pg.pt.xis 3 4 = some false := rfl
@[simp] theorem tb_xis3_5 : R.pg.pt.xis 3 5 = some false := rfl
@[simp] theorem tb_xis3_6 : R.pg.pt.xis 3 6 = some false := rfl
@[simp] theorem tb_xis3_7 : R.pg.pt.xis 3 7 = some false := rfl
@[simp] theorem tb_xis3_8 : R.pg.pt.xis 3 8 = some false := rfl
@[simp] theorem tb_xis3_9 : R.pg.pt.xis 3 9 = some false := rfl
@[simp] theorem tb_xis3_10 : R.pg.pt.xis 3 10 = some false := rfl
@[simp] theorem tb_xis3_11 : R.pg.pt.xis 3 11 = some false := rfl
@[simp] theorem tb_xis3_12 : R.pg.pt.xis 3 12 = some true := rfl
@[simp] theorem tb_xis4_0 : R.pg.pt.xis 4 0 = some false := rfl
@[simp] theorem tb_xis4_1 : R.pg.pt.xis 4 1 = some false := rfl
@[simp] theorem tb_xis4_2 : R.pg.pt.xis 4 2 = some false := rfl
@[simp] theorem tb_xis4_3 : R.pg.pt.xis 4 3 = some false := rfl
@[simp] theorem tb_xis4_4 : R.pg.pt.xis 4 4 = some true := rfl
@[simp] theorem tb_xis4_5 : R.pg.pt.xis 4 5 = some false := rfl
@[simp] theorem tb_xis4_6 : R.pg.pt.xis 4 6 = some false := rfl
@[simp] theorem tb_xis4_7 : R.pg.pt.xis 4 7 = some false := rfl
@[simp] theorem tb_xis4_8 : R.pg.pt.xis 4 8 = some false := rfl
@[simp] theorem tb_xis4_9 : R.pg.pt.xis 4 9 = some false := rfl
@[simp] theorem tb_xis4_10 : R.pg.pt.xis 4 10 = some false := rfl
@[simp] theorem tb_xis4_11 : R.pg.pt.xis 4 11 = some false := rfl
@[simp] theorem tb_xis4_12 : R.pg.pt.xis 4 12 = some true := rfl
@[simp] theorem tb_xis5_0 : R.pg.pt.xis 5 0 = some false := rfl
@[simp] theorem tb_xis5_1 : R.pg.pt.xis 5 1 = some false := rfl
@[simp] theorem tb_xis5_2 : R.pg.pt.xis 5 2 = some false := rfl
@[simp] theorem tb_xis5_3 : R.pg.pt.xis 5 3 = some false := rfl
@[simp] theorem tb_xis5_4 : R.pg.pt.xis 5 4 = some false := rfl
@[simp] theorem tb_xis5_5 : R.pg.pt.xis 5 5 = some true := rfl
@[simp] theorem tb_xis5_6 : R.pg.pt.xis 5 6 = some false := rfl
@[simp] theorem tb_xis5_7 : R.pg.pt.xis 5 7 = some false := rfl
@[simp] theorem tb_xis5_8 : R.pg.pt.xis 5 8 = some false := rfl
@[simp] theorem tb_xis5_9 : R.pg.pt.xis 5 9 = some false := rfl
@[simp] theorem tb_xis5_10 : R.pg.pt.xis 5 10 = some false := rfl
@[simp] theorem tb_xis5_11 : R.pg.pt.xis 5 11 = some false := rfl
@[simp] theorem tb_xis5_12 : R.pg.pt.xis 5 12 = some true := rfl
@[simp] theorem tb_xis6_0 : R.pg.pt.xis 6 0 = some false := rfl
@[simp] theorem tb_xis6_1 : R.pg.pt.xis 6 1 = some false := rfl
@[simp] theorem tb_xis6_2 : R.pg.pt.xis 6 2 = some false := rfl
@[simp] theorem tb_xis6_3 : R.pg.pt.xis 6 3 = some false := rfl
@[simp] theorem tb_xis6_4 : R.pg.pt.xis 6 4 = some false := rfl
@[simp] theorem tb_xis6_5 : R.pg.pt.xis 6 5 = some false := rfl
@[simp] theorem tb_xis6_6 : R.pg.pt.xis 6 6 = some true := rfl
@[simp] theorem tb_xis6_7 : R.pg.pt.xis 6 7 = some false := rfl
@[simp] theorem tb_xis6_8 : R.pg.pt.xis 6 8 = some false := rfl
@[simp] theorem tb_xis6_9 : R.pg.pt.xis 6 9 = some false := rfl
@[simp] theorem tb_xis6_10 : R.pg.pt.xis 6 10 = some false := rfl
@[simp] theorem tb_xis6_11 : R.pg.pt.xis 6 11 = some false := rfl
@[simp] theorem tb_xis6_12 : R.pg.pt.xis 6 12 = some true := rfl
@[simp] theorem tb_xis7_0 : R.pg.pt.xis 7 0 = some false := rfl
@[simp] theorem tb_xis7_1 : R.pg.pt.xis 7 1 = some false := rfl
@[simp] theorem tb_xis7_2 : R.pg.pt.xis 7 2 = some false := rfl
@[simp] theorem tb_xis7_3 : R.pg.pt.xis 7 3 = some false := rfl
@[simp] theorem tb_xis7_4 : R.pg.pt.xis 7 4 = some false := rfl
@[simp] theorem tb_xis7_5 : R.pg.pt.xis 7 5 = some false := rfl
@[simp] theorem tb_xis7_6 : R.pg.pt.xis 7 6 = some false := rfl
@[simp] theorem tb_xis7_7 : R.pg.pt.xis 7 7 = some true := rfl
@[simp] theorem tb_xis7_8 : R.pg.pt.xis 7 8 = some false := rfl
@[simp] theorem tb_xis7_9 : R.pg.pt.xis 7 9 = some false := rfl
@[simp] theorem tb_xis7_10 : R.pg.pt.xis 7 10 = some false := rfl
@[simp] theorem tb_xis7_11 : R.pg.pt.xis 7 11 = some false := rfl
@[simp] theorem tb_xis7_12 : R.pg.pt.xis 7 12 = some true := rfl
@[simp] theorem tb_xis8_0 : R.pg.pt.xis 8 0 = some false := rfl
@[simp] theorem tb_xis8_1 : R.pg.pt.xis 8 1 = some false := rfl
@[simp] theorem tb_xis8_2 : R.pg.pt.xis 8 2 = some false := rfl
@[simp] theorem tb_xis8_3 : R.pg.pt.xis 8 3 = some false := rfl
@[simp] theorem tb_xis8_4 : R.pg.pt.xis 8 4 = some false := rfl
@[simp] theorem tb_xis8_5 : R.pg.pt.xis 8 5 = some false := rfl
@[simp] theorem tb_xis8_6 : R.pg.pt.xis 8 6 = some false := rfl
@[simp] theorem tb_xis8_7 : R.pg.pt.xis 8 7 = some false := rfl
@[simp] theorem tb_xis8_8 : R.pg.pt.xis 8 8 = some true := rfl
@[simp] theorem tb_xis8_9 : R.pg.pt.xis 8 9 = some false := rfl
@[simp] theorem tb_xis8_10 : R.pg.pt.xis 8 10 = some false := rfl
@[simp] theorem tb_xis8_11 : R.pg.pt.xis 8 11 = some false := rfl
@[simp] theorem tb_xis8_12 : R.pg.pt.xis 8 12 = some true := rfl
@[simp] theorem tb_xis9_0 : R.pg.pt.xis 9 0 = some false := rfl
@[simp] theorem tb_xis9_1 : R.pg.pt.xis 9 1 = some false := rfl
@[simp] theorem tb_xis9_2 : R.pg.pt.xis 9 2 = some false := rfl
@[simp] theorem tb_xis9_3 : R.pg.pt.xis 9 3 = some false := rfl
@[simp] theorem tb_xis9_4 : R.pg.pt.xis 9 4 = some false := rfl
@[simp] theorem tb_xis9_5 : R.pg.pt.xis 9 5 = some false := rfl
@[simp] theorem tb_xis9_6 : R.pg.pt.xis 9 6 = some false := rfl
@[simp] theorem tb_xis9_7 : R.pg.pt.xis 9 7 = some false := rfl
@[simp] theorem tb_xis9_8 : R.pg.pt.xis 9 8 = some false := rfl
@[simp] theorem tb_xis9_9 : R.pg.pt.xis 9 9 = some true := rfl
@[simp] theorem tb_xis9_10 : R.pg.pt.xis 9 10 = some false := rfl
@[simp] theorem tb_xis9_11 : R.pg.pt.xis 9 11 = some false := rfl
@[simp] theorem tb_xis9_12 : R.pg.pt.xis 9 12 = some true := rfl
@[simp] theorem tb_xis10_0 : R.pg.pt.xis 10 0 = some false := rfl
@[simp] theorem tb_xis10_1 : R.pg.pt.xis 10 1 = some false := rfl
@[simp] theorem tb_xis10_2 : R.pg.pt.xis 10 2 = some false := rfl
@[simp] theorem tb_xis10_3 : R.pg.pt.xis 10 3 = some false := rfl
@[simp] theorem tb_xis10_4 : R.pg.pt.xis 10 4 = some false := rfl
@[simp] theorem tb_xis10_5 : R.pg.pt.xis 10 5 = some false := rfl
@[simp] theorem tb_xis10_6 : R.pg.pt.xis 10 6 = some false := rfl
@[simp] theorem tb_xis10_7 : R.pg.pt.xis 10 7 = some false := rfl
@[simp] theorem tb_xis10_8 : R.pg.pt.xis 10 8 = some false := rfl
@[simp] theorem tb_xis10_9 : R.pg.pt.xis 10 9 = some false := rfl
@[simp] theorem tb_xis10_10 : R.pg.pt.xis 10 10 = some false := rfl
@[simp] theorem tb_xis10_11 : R.pg.pt.xis 10 11 = some false := rfl
@[simp] theorem tb_xis10_12 : R.pg.pt.xis 10 12 = some true := rfl
@[simp] theorem tb_xf9 : R.pg.xf 9 = [] := rfl
@[simp] theorem tb_xf10 : R.pg.xf 10 = [] := rfl
-- law at 17, def 4; loose: "MealsError", "BadNumber", "BadName", "BadItem", "BadEvent", "BadNote", "TooMany", "Unknown", "Taken", "Refused", "NothingToUndo", "_law_taken", "_law_pick", "_law_alike", "_law_raised"

theorem txt : R.txt = true := by decide +kernel
theorem form : (R.errs.all erForm) = true := by decide +kernel
end Law

set_option Elab.async false
set_option linter.all false
set_option maxRecDepth 100000
set_option maxHeartbeats 4000000
namespace Law
open PySem Iv
abbrev Tn (m : Nat) : Fns := run R.pg m
variable {m : Nat} {st : Store}
def bits (k : Nat) : List D := (List.range 10).map fun j : Nat => .bl (decide ((j : Int) = (k : Int)))
def fieldD (k : Nat) (v nd : D) : D := if k < 8 then v else if k = 8 then .tup [v, nd] else .non
abbrev E3 (k : Nat) (v nd : D) : List Sl := [.d (.int k), .d v, .d nd, .no, .no, .no]
theorem rs_body (k : Nat) (hk : k < 10) (j : Nat) (v nd : D) : exs R.pg.pt (Tn j) R.pg.sup R.pg.xf none ir3b0 (E3 k v nd) st = .exc k (if k < 8 then [v] else if k = 8 then [v, nd] else []) (E3 k v nd) st := by
  have : k = 0 ∨ k = 1 ∨ k = 2 ∨ k = 3 ∨ k = 4 ∨ k = 5 ∨ k = 6 ∨ k = 7 ∨ k = 8 ∨ k = 9 := by omega
  unfold ir3b0
  rcases this with rfl | rfl | rfl | rfl | rfl | rfl | rfl | rfl | rfl | rfl <;> simp [eqD_int2]
theorem in_at (k : Nat) (hk : k < 10) : inD (.int k) (.lst [.int 0, .int 1, .int 3, .int 6, .int 7]) = some (decide (k = 0 ∨ k = 1 ∨ k = 3 ∨ k = 6 ∨ k = 7)) := by
  have : k = 0 ∨ k = 1 ∨ k = 2 ∨ k = 3 ∨ k = 4 ∨ k = 5 ∨ k = 6 ∨ k = 7 ∨ k = 8 ∨ k = 9 := by omega
  rcases this with rfl | rfl | rfl | rfl | rfl | rfl | rfl | rfl | rfl | rfl <;> decide +kernel
theorem addL (xs ys : List D) (h : xs.length + ys.length < 100) : addD (.lst xs) (.lst ys) = some (.lst (xs ++ ys)) := add_ll xs ys (by omega)
theorem rs_suite (k : Nat) (hk : k < 10) (j : Nat) (v nd : D) : exs R.pg.pt (Tn j) R.pg.sup R.pg.xf (some (k, (R.pg.xf k).zip (if k < 8 then [v] else if k = 8 then [v, nd] else []))) ir3b1 ((unx (E3 k v nd)).set 3 .xc) st = .rt (.tup [.lst (bits k), fieldD k v nd]) st := by
  have hin := in_at k hk
  have : k = 0 ∨ k = 1 ∨ k = 2 ∨ k = 3 ∨ k = 4 ∨ k = 5 ∨ k = 6 ∨ k = 7 ∨ k = 8 ∨ k = 9 := by omega
  unfold ir3b1 bits fieldD
  rcases this with rfl | rfl | rfl | rfl | rfl | rfl | rfl | rfl | rfl | rfl <;> simp [unx_eq, setSl, List.lookup, eqD_int2, List.range_succ, addL] at hin ⊢ <;> simp [hin, setSl, List.lookup, eqD_int2]
theorem raised (hm : 1 ≤ m) (k : Nat) (hk : k < 10) (v nd : D) : (Tn m).call 3 [.int k, v, nd] st = .ok (.tup [.lst (bits k), fieldD k v nd]) st := by
  obtain ⟨j, rfl, hj⟩ := lv hm
  rw [call_fd (d := df3.fd) rfl rfl]
  show fin (exs R.pg.pt (Tn j) R.pg.sup R.pg.xf none ir3 (E3 k v nd) st) = _
  have hs : R.pg.sup k 10 = some true := by
    have : k = 0 ∨ k = 1 ∨ k = 2 ∨ k = 3 ∨ k = 4 ∨ k = 5 ∨ k = 6 ∨ k = 7 ∨ k = 8 ∨ k = 9 := by omega
    rcases this with rfl | rfl | rfl | rfl | rfl | rfl | rfl | rfl | rfl | rfl <;> rfl
  unfold ir3
  rw [exs_cons, try_catch (rs_body k hk j v nd) hs (rs_suite k hk j v nd)]
  rfl
end Law

set_option Elab.async false
set_option linter.all false
set_option maxRecDepth 100000
set_option maxHeartbeats 4000000
namespace Law
open PySem Iv
variable {m : Nat} {st : Store}
theorem takeL (hm : 1 ≤ m) (ρ : Dw) (hρ : ρ.ok) (many : Int) (h1 : 0 < many) (h2 : many < 1073741824) : ∃ x ρ', (Tn m).call 0 [.loc 0, .int many] [ρ.cell] = .ok (.int x) [Dw.cell ρ'] ∧ ρ'.ok ∧ 0 ≤ x ∧ x < many := taken_ok rfl hm ρ hρ many h1 h2
theorem pickL (hm : 2 ≤ m) (ρ : Dw) (hρ : ρ.ok) (ks : List D) (h1 : 0 < ks.length) (h2 : ks.length < 1073741824) : ∃ x ρ', (Tn m).call 1 [.loc 0, .lst ks] [ρ.cell] = .ok x [Dw.cell ρ'] ∧ ρ'.ok ∧ x ∈ ks := pick_ok (T := 0) rfl rfl hm ρ hρ ks h1 h2
theorem alikeL (k : Nat) (hm : k ≤ m) (d : D) (h : alD k d = true) : (Tn m).call 2 [d, d] st = .ok (.bl true) st := alike_refl rfl k m d h hm
theorem iff_no {P : Pt} {G : Fns} {sup : Nat → Nat → Option Bool} {xf : Nat → List Nat} {X : Xh} {c : Ex} {b : List Sm} {env : List Sl} {st st2 : Store} (h : tst (ev P G X c env st) = .ok false st2) : ex P G sup xf X (.iff c b []) env st = .nx env st2 := by
  rw [ex_iff, h, st_ok, if_neg Bool.false_ne_true, exs_nil]
abbrev FF (m : Nat) (tg : Tg) (b : List Sm) := forF R.pg.pt (Tn m) R.pg.sup R.pg.xf none tg b
theorem FF_at (tg : Tg) (b : List Sm) (y : D) (env : List Sl) : FF m tg b y env st = liftS (asgT tg y env) fun e2 => exs R.pg.pt (Tn m) R.pg.sup R.pg.xf none b e2 st := rfl
abbrev E9 (scr : D) (s2 s3 s4 s5 s6 s7 : Sl) : List Sl := [.d scr, .d (.loc 0), s2, s3, s4, s5, s6, s7, .no]
def vals (x : Int) : List D := [.non, .int 7, .str "x", .tup [.int 1, .int 2], .bl true, .int x]
def nams : List D := [.tup [], .tup [.str "a"]]
def b1 : Sm := .asg (.nm 3) (.call 1 [.var 1, .lst [.lit .non, .lit (.int 7), .lit (.str "x"), .tup [.lit (.int 1), .lit (.int 2)], .lit (.bl true), .call 0 [.var 1, .bin .pow (.lit (.int 10)) (.lit (.int 9))]]])
def b2 : Sm := .asg (.nm 4) (.call 1 [.var 1, .lst [.tup [], .tup [.lit (.str "a")]]])
def b3 : Sm := .asg (.nm 5) (.call 3 [.var 2, .var 3, .var 4])
def b4c : Ex := .cpr (.cmp .eq (.var 8) (.var 2)) [8] (.nm 8) (.rng (.lit (.int 0)) (.lit (.int 10))) .nil
def b4 : Sm := .iff (.or (.cmp .is_ (.var 5) (.lit .non)) (.one (.cmp .ne (.idx (.var 5) (.lit (.int 0))) b4c))) [.ret (.lit (.bl false))] []
def b5 : Sm := .asg (.nm 6) (.var 3)
def b6 : Sm := .iff (.cmp .eq (.var 2) (.lit (.int 8))) [.asg (.nm 6) (.tup [.var 3, .var 4])] []
def b7 : Sm := .iff (.and (.cmp .lt (.var 2) (.lit (.int 9))) (.one (.or (.cmp .ne (.idx (.var 5) (.lit (.int 1))) (.var 6)) (.one (.cmp .ne (.isi (.idx (.var 5) (.lit (.int 1))) [.bool]) (.isi (.var 6) [.bool])))))) [.ret (.lit (.bl false))] []
theorem b0_eq : ir4b0 = [b1, b2, b3, b4, b5, b6, b7] := rfl
section
variable {scr : D} {s2 s3 s4 s5 s6 s7 : Sl}
theorem v1 (hm : 2 ≤ m) (ρ : Dw) (hρ : ρ.ok) : ∃ (v : D) (x : Int) (ρ' : Dw), v ∈ vals x ∧ ρ'.ok ∧ ex R.pg.pt (Tn m) R.pg.sup R.pg.xf none b1 (E9 scr s2 s3 s4 s5 s6 s7) [ρ.cell] = .nx (E9 scr s2 (.d v) s4 s5 s6 s7) [Dw.cell ρ'] := by
  obtain ⟨x, ρ1, e1, h1, x0, x1⟩ := takeL (show 1 ≤ m by omega) ρ hρ 1000000000 (by omega) (by omega)
  obtain ⟨v, ρ2, e2, h2, hv⟩ := pickL hm ρ1 h1 (vals x) (by simp [vals]) (by simp [vals])
  refine ⟨v, x, ρ2, hv, h2, ?_⟩
  have p9 : powD (.int 10) (.int 9) = some (.int 1000000000) := rfl
  unfold vals at e2
  unfold b1
  simp -implicitDefEqProofs [p9, e1, e2, setSl]
theorem v2 (hm : 2 ≤ m) (ρ : Dw) (hρ : ρ.ok) : ∃ (v : D) (ρ' : Dw), v ∈ nams ∧ ρ'.ok ∧ ex R.pg.pt (Tn m) R.pg.sup R.pg.xf none b2 (E9 scr s2 s3 s4 s5 s6 s7) [ρ.cell] = .nx (E9 scr s2 s3 (.d v) s5 s6 s7) [Dw.cell ρ'] := by
  obtain ⟨v, ρ2, e2, h2, hv⟩ := pickL hm ρ hρ nams (by simp [nams]) (by simp [nams])
  refine ⟨v, ρ2, hv, h2, ?_⟩
  unfold nams at e2
  unfold b2
  simp -implicitDefEqProofs [e2, setSl]
theorem v3 (hm : 1 ≤ m) (k : Nat) (hk : k < 10) (v nd : D) : ex R.pg.pt (Tn m) R.pg.sup R.pg.xf none b3 (E9 scr (.d (.int k)) (.d v) (.d nd) s5 s6 s7) st = .nx (E9 scr (.d (.int k)) (.d v) (.d nd) (.d (.tup [.lst (bits k), fieldD k v nd])) s6 s7) st := by
  have e := raised (st := st) hm k hk v nd
  unfold b3
  simp -implicitDefEqProofs [e, setSl]
theorem bits_eq (k : Nat) : eqD (.lst (bits k)) (.lst (bits k)) = some true := by
  refine eqD_self 2 (by omega) _ ?_
  show (bits k).all (shD 1) = true
  rw [List.all_eq_true]
  intro d hd
  obtain ⟨j, _, rfl⟩ := List.mem_map.mp hd
  rfl
theorem v4 (m : Nat) (k : Nat) (f : D) : ex R.pg.pt (Tn m) R.pg.sup R.pg.xf none b4 (E9 scr (.d (.int k)) s3 s4 (.d (.tup [.lst (bits k), f])) s6 s7) st = .nx (E9 scr (.d (.int k)) s3 s4 (.d (.tup [.lst (bits k), f])) s6 s7) st := by
  have key : ev R.pg.pt (Tn m) none b4c (E9 scr (.d (.int k)) s3 s4 (.d (.tup [.lst (bits k), f])) s6 s7) st = .ok (.lst (bits k)) st := by
    refine cpr_rng0M (P := R.pg.pt) (G := Tn m) (X := none) (elt := .cmp .eq (.var 8) (.var 2)) (own := [8]) (tg := .nm 8) (a := .lit (.int 0)) (b := .lit (.int 10)) 10 (fun j : Nat => D.bl (decide ((j : Int) = (k : Int)))) (evY_lit _) (evY_lit _) (by omega) fun j hj => ?_
    refine ⟨(E9 scr (.d (.int k)) s3 s4 (.d (.tup [.lst (bits k), f])) s6 s7).set 8 (.d (.int j)), rfl, ?_⟩
    simp -implicitDefEqProofs [eqD_int2]
  have e1 := bits_eq k
  have e0 : ev R.pg.pt (Tn m) none (.cmp .is_ (.var 5) (.lit .non)) (E9 scr (.d (.int k)) s3 s4 (.d (.tup [.lst (bits k), f])) s6 s7) st = .ok (.bl false) st := by
    generalize bits k = bs
    rw [evY_cmp]
    rfl
  have e2 : ev R.pg.pt (Tn m) none (.cmp .ne (.idx (.var 5) (.lit (.int 0))) b4c) (E9 scr (.d (.int k)) s3 s4 (.d (.tup [.lst (bits k), f])) s6 s7) st = .ok (.bl false) st := by
    generalize bits k = bs at *
    have hb : ∀ r, brw (E9 scr (.d (.int k)) s3 s4 (.d (.tup [.lst bs, f])) s6 s7) b4c st r = r := fun _ => rfl
    generalize b4c = q at *
    simp -implicitDefEqProofs [key, hb, e1]
  unfold b4
  refine iff_no ?_
  rw [evY_or, e0, bind_ok]
  dsimp only
  rw [evY_one, e2]
  rfl
theorem v5 (m : Nat) (v : D) : ex R.pg.pt (Tn m) R.pg.sup R.pg.xf none b5 (E9 scr s2 (.d v) s4 s5 s6 s7) st = .nx (E9 scr s2 (.d v) s4 s5 (.d v) s7) st := by
  unfold b5
  simp -implicitDefEqProofs [setSl]
theorem v6 (m : Nat) (k : Nat) (v nd : D) : ex R.pg.pt (Tn m) R.pg.sup R.pg.xf none b6 (E9 scr (.d (.int k)) (.d v) (.d nd) s5 (.d v) s7) st = .nx (E9 scr (.d (.int k)) (.d v) (.d nd) s5 (.d (if k = 8 then .tup [v, nd] else v)) s7) st := by
  unfold b6
  by_cases h : k = 8
  · subst h
    simp -implicitDefEqProofs [eqD_int2, setSl]
  · have h' : ¬ (k : Int) = 8 := by omega
    simp -implicitDefEqProofs [eqD_int2, setSl, h, h']
theorem isi_bool (m : Nat) (e : Ex) (env : List Sl) (d : D) (hd : datD d = true) (hder : der st d = d) (h : brw env e st (ev R.pg.pt (Tn m) none e env st) = .ok d st) : ev R.pg.pt (Tn m) none (.isi e [.bool]) env st = .ok (.bl ([Ty.bool].any (isT1 · d))) st := by
  rw [evY_isi, h, bind_ok, hder]
  cases d <;> first | rfl | (cases hd; done)
theorem v7 (m : Nat) (k : Nat) (hk : k < 10) (v nd : D) (hd : ∀ d, (d = v ∨ d = .tup [v, nd]) → datD d = true ∧ der st d = d ∧ eqD d d = some true) (bs : D) : ex R.pg.pt (Tn m) R.pg.sup R.pg.xf none b7 (E9 scr (.d (.int k)) s3 s4 (.d (.tup [bs, fieldD k v nd])) (.d (if k = 8 then .tup [v, nd] else v)) s7) st
    = .nx (E9 scr (.d (.int k)) s3 s4 (.d (.tup [bs, fieldD k v nd])) (.d (if k = 8 then .tup [v, nd] else v)) s7) st := by
  unfold b7
  refine iff_no ?_
  by_cases h9 : k = 9
  · subst h9
    simp -implicitDefEqProofs
  · have h9' : (k : Int) < 9 := by omega
    have hf : fieldD k v nd = if k = 8 then .tup [v, nd] else v := by
      unfold fieldD
      by_cases h8 : k = 8
      · rw [if_neg (by omega), if_pos h8, if_pos h8]
      · rw [if_pos (by omega), if_neg h8]
    rw [hf]
    obtain ⟨q1, q2, q3⟩ : datD (if k = 8 then .tup [v, nd] else v) = true ∧ der st (if k = 8 then .tup [v, nd] else v) = (if k = 8 then .tup [v, nd] else v) ∧ eqD (if k = 8 then .tup [v, nd] else v) (if k = 8 then .tup [v, nd] else v) = some true := by
      by_cases h8 : k = 8
      · rw [if_pos h8]; exact hd _ (.inr rfl)
      · rw [if_neg h8]; exact hd _ (.inl rfl)
    generalize (if k = 8 then D.tup [v, nd] else v) = w at *
    have i1 := isi_bool (st := st) m (.idx (.var 5) (.lit (.int 1))) (E9 scr (.d (.int k)) s3 s4 (.d (.tup [bs, w])) (.d w) s7) w q1 q2 (by simp)
    have i2 := isi_bool (st := st) m (.var 6) (E9 scr (.d (.int k)) s3 s4 (.d (.tup [bs, w])) (.d w) s7) w q1 q2 (by simp)
    generalize [Ty.bool].any (isT1 · w) = b at *
    have e1 : ev R.pg.pt (Tn m) none (.cmp .ne (.idx (.var 5) (.lit (.int 1))) (.var 6)) (E9 scr (.d (.int k)) s3 s4 (.d (.tup [bs, w])) (.d w) s7) st = .ok (.bl false) st := by
      simp -implicitDefEqProofs [q2, q3]
    have e2 : ev R.pg.pt (Tn m) none (.cmp .ne (.isi (.idx (.var 5) (.lit (.int 1))) [.bool]) (.isi (.var 6) [.bool])) (E9 scr (.d (.int k)) s3 s4 (.d (.tup [bs, w])) (.d w) s7) st = .ok (.bl false) st := by
      rw [evY_cmp, brwY_isi, i1, bind_ok, brwY_isi, i2, bind_ok]
      cases b <;> rfl
    have e0 : ev R.pg.pt (Tn m) none (.cmp .lt (.var 2) (.lit (.int 9))) (E9 scr (.d (.int k)) s3 s4 (.d (.tup [bs, w])) (.d w) s7) st = .ok (.bl true) st := by
      simp -implicitDefEqProofs [h9']
    rw [evY_and, e0, bind_ok]
    dsimp only
    rw [evY_one, evY_or, e1, bind_ok]
    dsimp only
    rw [evY_one, e2]
    rfl
theorem val_ok (v nd : D) (x : Int) (hv : v ∈ vals x) (hn : nd ∈ nams) : ∀ d, (d = v ∨ d = .tup [v, nd]) → datD d = true ∧ der st d = d ∧ eqD d d = some true := by
  have sv : shD 2 v = true ∧ datD v = true ∧ der st v = v := by
    simp only [vals, List.mem_cons, List.not_mem_nil, or_false] at hv
    rcases hv with rfl | rfl | rfl | rfl | rfl | rfl <;> first | exact ⟨rfl, rfl, rfl⟩ | exact ⟨by decide +kernel, rfl, rfl⟩
  have sn : shD 2 nd = true := by
    simp only [nams, List.mem_cons, List.not_mem_nil, or_false] at hn
    rcases hn with rfl | rfl <;> first | rfl | decide +kernel
  intro d hd
  rcases hd with rfl | rfl
  · exact ⟨sv.2.1, sv.2.2, eqD_self 2 (by omega) _ sv.1⟩
  · refine ⟨rfl, rfl, eqD_self 3 (by omega) _ ?_⟩
    show (shD 2 v && (shD 2 nd && true)) = true
    rw [sv.1, sn]
    rfl
theorem turn (hm : 2 ≤ m) (k : Nat) (hk : k < 10) (ρ : Dw) (hρ : ρ.ok) : ∃ s3' s4' s5' s6' ρ', Dw.ok ρ' ∧ FF m (.nm 2) ir4b0 (.int k) (E9 scr s2 s3 s4 s5 s6 s7) [ρ.cell] = .nx (E9 scr (.d (.int k)) s3' s4' s5' s6' s7) [Dw.cell ρ'] := by
  have ea : asgT (.nm 2) (.int k) (E9 scr s2 s3 s4 s5 s6 s7) = some (E9 scr (.d (.int k)) s3 s4 s5 s6 s7) := rfl
  obtain ⟨v, x, ρ1, hv, h1, e1⟩ := v1 (scr := scr) (s2 := .d (.int k)) (s3 := s3) (s4 := s4) (s5 := s5) (s6 := s6) (s7 := s7) hm ρ hρ
  obtain ⟨nd, ρ2, hn, h2, e2⟩ := v2 (scr := scr) (s2 := .d (.int k)) (s3 := .d v) (s4 := s4) (s5 := s5) (s6 := s6) (s7 := s7) hm ρ1 h1
  refine ⟨.d v, .d nd, .d (.tup [.lst (bits k), fieldD k v nd]), .d (if k = 8 then .tup [v, nd] else v), ρ2, h2, ?_⟩
  rw [FF_at, ea, liftS_ok, b0_eq, exs_cons, e1, then_nx, exs_cons, e2, then_nx, exs_cons, v3 (by omega) k hk v nd, then_nx, exs_cons, v4, then_nx, exs_cons, v5, then_nx, exs_cons, v6, then_nx, exs_cons, v7 m k hk v nd (val_ok v nd x hv hn), then_nx, exs_nil]
/-! law -/
def l1 : Sm := .new 1 (.lst [.var 0, .lit (.int 0), .lit (.int 53), .lit (.int 0)])
def l2 : Sm := .for_ (.nm 2) (.rng (.lit (.int 0)) (.lit (.int 10))) ir4b0
def l3 : Sm := .asg (.nm 7) (.lst [.xkf 0 [0] [.lit (.int 1)] 0, .xkf 1 [0] [.lit (.str "a")] 0, .xkf 2 [1] [.lit (.int 4)] 1, .xkf 3 [0] [.lit (.int 5)] 0, .xkf 4 [2] [.lit (.int 6)] 2])
def l4 : Sm := .asg (.nm 7) (.bin .add (.var 7) (.lst [.xkf 5 [3] [.lit (.int 7)] 3, .xkf 6 [0] [.lit (.int 8)] 0, .xkf 7 [0] [.lit (.int 9)] 0, .xkf 8 [4, 5] [.lit (.str "r"), .lit (.int 11)] 5, .xkf 8 [5, 4] [.lit (.int 1), .lit (.str "s")] 4]))
def l5 : Sm := .ret (.call 2 [.var 7, .lst [.lit (.int 1), .lit (.str "a"), .lit (.int 4), .lit (.int 5), .lit (.int 6), .lit (.int 7), .lit (.int 8), .lit (.int 9), .lit (.int 11), .lit (.str "s")]])
theorem ir4_eq : ir4 = [l1, l2, l3, l4, l5] := rfl
theorem o1 (m : Nat) (ns : List Int) : ex R.pg.pt (Tn m) R.pg.sup R.pg.xf none l1 [.d (.lst (ns.map D.int)), .no, .no, .no, .no, .no, .no, .no, .no] [] = .nx (E9 (.lst (ns.map D.int)) .no .no .no .no .no .no) [Dw.cell ⟨ns, 0, 53, 0⟩] := by
  unfold l1
  simp -implicitDefEqProofs [setSl, D.toCell, Dw.cell]
theorem o2 (hm : 2 ≤ m) (ρ : Dw) (hρ : ρ.ok) : ∃ s2 s3 s4 s5 s6 ρ', Dw.ok ρ' ∧ ex R.pg.pt (Tn m) R.pg.sup R.pg.xf none l2 (E9 scr .no .no .no .no .no .no) [ρ.cell] = .nx (E9 scr s2 s3 s4 s5 s6 .no) [Dw.cell ρ'] := by
  have e := for_rng0 (P := R.pg.pt) (G := Tn m) (sup := R.pg.sup) (xf := R.pg.xf) (X := none) (tg := .nm 2) (bd := ir4b0) (a := .lit (.int 0)) (b := .lit (.int 10)) (env := E9 scr .no .no .no .no .no .no) (st := [ρ.cell]) (s1 := [ρ.cell]) (s2 := [ρ.cell]) 10 (evY_lit _) (evY_lit _) (by omega)
  obtain ⟨en, s, k1, s2, s3, s4, s5, s6, ρ', h1, he, hs⟩ := loopF_inv (f := FF m (.nm 2) ir4b0) (I := fun en s => ∃ s2 s3 s4 s5 s6 ρ', Dw.ok ρ' ∧ en = E9 scr s2 s3 s4 s5 s6 .no ∧ s = [Dw.cell ρ']) (xs := (List.range 10).map fun k : Nat => D.int (k : Int)) ⟨.no, .no, .no, .no, .no, ρ, hρ, rfl, rfl⟩
    fun x hx en s ⟨s2, s3, s4, s5, s6, ρ, hρ, he, hs⟩ => by
      subst he hs
      obtain ⟨k, hk, rfl⟩ := List.mem_map.mp hx
      obtain ⟨s3', s4', s5', s6', ρ', h1, h2⟩ := turn (scr := scr) (s2 := s2) (s3 := s3) (s4 := s4) (s5 := s5) (s6 := s6) (s7 := .no) hm k (List.mem_range.mp hk) ρ hρ
      exact ⟨_, _, h2, _, _, _, _, _, ρ', h1, rfl, rfl⟩
  subst he hs
  refine ⟨s2, s3, s4, s5, s6, ρ', h1, ?_⟩
  unfold l2
  rw [e]
  exact k1
theorem o3 (m : Nat) : ex R.pg.pt (Tn m) R.pg.sup R.pg.xf none l3 (E9 scr s2 s3 s4 s5 s6 s7) st = .nx (E9 scr s2 s3 s4 s5 s6 (.d (.lst [.int 1, .str "a", .int 4, .int 5, .int 6]))) st := by
  unfold l3
  simp -implicitDefEqProofs [setSl, List.lookup]
theorem o4 (m : Nat) : ex R.pg.pt (Tn m) R.pg.sup R.pg.xf none l4 (E9 scr s2 s3 s4 s5 s6 (.d (.lst [.int 1, .str "a", .int 4, .int 5, .int 6]))) st = .nx (E9 scr s2 s3 s4 s5 s6 (.d (.lst [.int 1, .str "a", .int 4, .int 5, .int 6, .int 7, .int 8, .int 9, .int 11, .str "s"]))) st := by
  unfold l4
  simp -implicitDefEqProofs [setSl, List.lookup, addL]
theorem o5 (hm : 2 ≤ m) : ex R.pg.pt (Tn m) R.pg.sup R.pg.xf none l5 (E9 scr s2 s3 s4 s5 s6 (.d (.lst [.int 1, .str "a", .int 4, .int 5, .int 6, .int 7, .int 8, .int 9, .int 11, .str "s"]))) st = .rt (.bl true) st := by
  have e := alikeL (m := m) (st := st) 2 hm (.lst [.int 1, .str "a", .int 4, .int 5, .int 6, .int 7, .int 8, .int 9, .int 11, .str "s"]) (by decide +kernel)
  unfold l5
  simp -implicitDefEqProofs [e]
end
theorem pure (ns : List Int) (hl : ns.length ≤ 63) : ∃ s, (run R.pg (12 + 1)).call 4 [.lst (ns.map .int)] [] = .ok (.bl true) s := by
  obtain ⟨s2, s3, s4, s5, s6, ρ2, h2, e2⟩ := o2 (m := 12) (scr := .lst (ns.map D.int)) (by omega) ⟨ns, 0, 53, 0⟩ (show (0 : Int) ≤ 0 by omega)
  refine ⟨[Dw.cell ρ2], ?_⟩
  rw [call_fd (d := df4.fd) rfl rfl]
  show fin (exs R.pg.pt (Tn 12) R.pg.sup R.pg.xf none ir4 [.d (.lst (ns.map D.int)), .no, .no, .no, .no, .no, .no, .no, .no] []) = _
  rw [ir4_eq, exs_cons, o1, then_nx, exs_cons, e2, then_nx, exs_cons, o3, then_nx, exs_cons, o4, then_nx, exs_cons, o5 (by omega)]
  rfl
end Law

set_option Elab.async false
set_option linter.all false
set_option maxRecDepth 100000
set_option maxHeartbeats 0
namespace Law
open PySem PySem.Spec PyProof.Rows L2 Iv He
abbrev Rw : PySem.W.OpenRow := PySem.W.OpenLaw.row PySem.Challenge.rw_mealsbynoon_k09_errors
abbrev exB : PySem.W.Frag → Bool := fun K => R.ex K && (Fa.glo "law").ok K
abbrev hk : PySem.W.Hook := hookI 6 R.prog (R.defs.map (·.d)) R.errs exB
def ob (s : PySem.W.SharedT) : AlI := obsIG 6 R.prog (R.defs.map (·.d)) R.errs exB (HandSHeadRun.getT s)
theorem ob_eq (s : PySem.W.SharedT) : ob s = hk.obs s.abs := obsIG_eq (HandSHeadRun.getT_eq s)
abbrev loose : List Str := ["MealsError", "BadNumber", "BadName", "BadItem", "BadEvent", "BadNote", "TooMany", "Unknown", "Taken", "Refused", "NothingToUndo", "_law_taken", "_law_pick", "_law_alike", "_law_raised"]
theorem runs (w : World) : HandSHeadRun.RunEq Rw (PySem.W.view Rw.prog [17]) hk ob 6000 loose w := by
  intro os
  kernel_rfl
end Law
open PySem PySem.W PySem.Calls PyProof.Rows Iv
theorem PySem.Challenge.cw_mealsbynoon_k09_errors_holds : PySem.Challenge.rw_mealsbynoon_k09_errors.Holds := by
  w_on; o_law
  refine HandSHeadRun.head_any (r := OpenLaw.row PySem.Challenge.rw_mealsbynoon_k09_errors) (q := view (OpenLaw.row PySem.Challenge.rw_mealsbynoon_k09_errors).prog [17]) (H := Law.hk) (ob := Law.ob) (M := 6000) (loose := Law.loose) (d := HandSHeadRun.topDef (OpenLaw.row PySem.Challenge.rw_mealsbynoon_k09_errors).prog 17) (kwd := []) Law.ob_eq
    (by kernel_rfl) (fun s => by kernel_rfl) Law.runs (by kernel_rfl) (by kernel_rfl) (by kernel_rfl) (by rfl) (by first | assumption | decide +kernel) (by decide +kernel) ⟨rfl, rfl, rfl, rfl, rfl, by decide +kernel⟩ ?hw ?hc
  case hw => w_witness2
  case hc =>
    refine walk_o (l := PySem.Challenge.rw_mealsbynoon_k09_errors) (n := 63) (k := 2 * (12 + 1)) (x := "script") rfl (by decide) (by kernel_rfl) ⟨⟨rfl, by decide, by decide⟩, rfl⟩ ?_
    intro w mg fa h Y G hmg0
    have hmg : mg ("law" : PySem.Str) = some (.ref fa) := by
      have e : (HandSHeadRun.topDef (OpenLaw.row PySem.Challenge.rw_mealsbynoon_k09_errors).prog 17).name = ("law" : PySem.Str) := by kernel_rfl
      rw [← e]
      exact hmg0
    exact law_told (R := Law.R) (n := 63) (m := 12) (L := 4) (iL := Law.df4) rfl rfl rfl rfl (steps := 6) (fun ns hl => Law.pure ns hl) Law.txt Law.form Law.bind Law.bindE Law.bindK w mg fa h Y G hmg

